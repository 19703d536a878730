import Derived.Test.YtoeepmcaabmjkaaDoorPO0
import Derived.Test.YtoeepmcaabmjkaaDoorPO1
import Derived.Test.YtoeepmcaabmjkaaDoorPO2
import Derived.Test.YtoeepmcaabmjkaaDoorPO3
import Derived.Test.YtoeepmcaabmjkaaDoorPO4
namespace Go.Proofs.YtoeepmcaabmjkaaDoor.QPO
open Go.RowKit Go.Proofs.YtoeepmcaabmjkaaDoorW.PrintWords Go.Proofs.YtoeepmcaabmjkaaDoorW.PrintLast Go.Proofs.YtoeepmcaabmjkaaDoorW.PrintMore
attribute [local go_sem] yz yx yQ yP yl yk yy yw   -- for this text's walks alone
set_option linter.unusedVariables false
set_option linter.unusedSimpArgs false
def kz (P : S52 → List Value → Prop) : Kd S52 where
  sz := 4
  E := []
  K := fun _ x cs => P x cs ∧ cs.length = 4 ∧ ∀ u ∈ cs, u.oneCell' = true
  M := fun _ _ _ x cs => P x cs ∧ cs.length = 4 ∧ ∀ u ∈ cs, u.oneCell' = true
  K_len := fun h => h.2.1
  K_one := fun h => h.2.2
  K_below := fun _ h => h
  K_of_M := fun h => h
  M_mono := fun _ h => h
  M_bound := fun h => h
  M_move := fun _ h => h
  M_lower := fun _ h => h
theorem kz_mk {P : S52 → List Value → Prop} {w w' : World} {base base' : Nat} {ok ok' : Nat → Prop} {x : S52} {cs : List Value} (h : k52.M w base ok x cs) (hp : P x cs) : (kz P).M w' base' ok' x cs := ⟨hp, k52.K_len (k52.K_of_M h), k52.K_one (k52.K_of_M h)⟩
theorem kz_R {P P' : S52 → List Value → Prop} (hp : ∀ x cs, P x cs → P' x cs) {e : Nat} {w : World} {b : Nat} {ok : Nat → Prop} {v : Value} {l : List S52} (h : Kd.R (kz P) e w b ok v l) : Kd.R (kz P') e w b ok v l := Kd.R_imp (d := kz P) (d' := kz P') rfl (fun _ _ _ _ _ h => ⟨hp _ _ h.1, h.2⟩) h
theorem kz_S {P P' : S52 → List Value → Prop} (hp : ∀ x cs, P x cs → P' x cs) {e : Nat} {w : World} {b : Nat} {ok : Nat → Prop} {v : Value} {l : List (List S52)} (h : Kd.S (Kd.slice 52 (kz P)) e w b ok v l) : Kd.S (Kd.slice 52 (kz P')) e w b ok v l := by
  obtain ⟨f, h⟩ := h
  refine ⟨f, Kd.R_imp (d := Kd.tag f (Kd.slice 52 (kz P))) (d' := Kd.tag f (Kd.slice 52 (kz P'))) rfl (fun w base ok x cs hM => ?_) h⟩
  obtain ⟨u, he, hr⟩ := hM
  exact ⟨u, he, kz_R hp hr⟩
theorem kzE {P : S52 → List Value → Prop} {t : Nat} (h1 : 48 ≠ t) (h2 : 52 ≠ t) : ∀ q, q ∈ 48 :: (Kd.slice 52 (kz P)).E → q ≠ t := by
  intro q hq
  rcases List.mem_cons.1 hq with rfl | hq
  · exact h1
  · have hq' : q ∈ [52] := hq
    rw [List.mem_singleton.1 hq']
    exact h2
theorem kz_step {w w1 : World} {base : Nat} {ok : Nat → Prop} (hm : ∀ k q cells, ok k → q ≠ 52 → q ≠ 48 → q ≠ 30 → q ≠ 102 → w.heap[k]? = some (.cells cells q (0, 0)) → w1.heap[k]? = w.heap[k]?) (x : S52) (cs : List Value) (h : k52.M w base ok x cs) : k52.M w1 base ok x cs := by
  have hE : ∀ q, q ∈ k52.E → q ≠ 52 ∧ q ≠ 48 ∧ q ≠ 30 ∧ q ≠ 102 := by decide
  refine k52.M_mono (fun _ hk => hk.1) (k52.M_move (fun k hk => ?_) (k52.M_bound h))
  obtain ⟨h1, _, _, q, hq, cells, hc⟩ := hk
  obtain ⟨a, b, c, d⟩ := hE q hq
  exact hm k q cells h1 a b c d hc
theorem kz_out {w : World} {base b : Nat} {ok okr : Nat → Prop} {u : Value} {l : List S52} (hb : base ≤ b) (h : Kd.R (kz (k52.M w base ok)) 52 w b okr u l) : Kd.R k52 52 w base (fun k => ok k ∨ okr k) u l := by
  have hE : ∀ q, q ∈ k52.E → q ≠ 52 := by decide
  have hty := Kd.R_typed h
  obtain ⟨h0, inner, ho, hr⟩ := h
  refine ⟨fun k hk => .inr (h0 k hk), inner, own_weaken ho hb, hr.imp_ (fun x cs hM => k52.M_mono (fun k hk => ⟨.inl hk.1, fun e => ?_⟩) (k52.M_bound hM.1))⟩
  obtain ⟨_, _, _, q, hq, cells, hc⟩ := hk
  obtain ⟨cells', hc'⟩ := hty k e.symm
  rw [hc] at hc'
  injection hc' with hc'
  injection hc' with _ hc'
  exact hE q hq hc'
theorem kz_outs {w : World} {base b : Nat} {ok : Nat → Prop} {v : Value} {l : List (List S52)} (hb : base ≤ b) (h : Kd.R (Kd.slice 52 (kz (k52.M w base ok))) 48 w b ok v l) : Kd.R (Kd.slice 52 k52) 48 w base ok v l := by
  have hE : ∀ q, q ∈ 52 :: k52.E → q ≠ 48 := by decide
  have hty := Kd.R_typed h
  obtain ⟨h0, inner, ho, hr⟩ := h
  refine ⟨h0, inner, own_weaken ho hb, hr.imp_ (fun x cs hM => ?_)⟩
  obtain ⟨u, he, hr⟩ := hM
  refine ⟨u, he, Kd.zZ (Kd.xr (kz_out hb hr)) (fun k hk => ⟨hk.1.elim id (fun h => h.1), fun e => ?_⟩)⟩
  obtain ⟨_, _, _, q, hq, cells, hc⟩ := hk
  obtain ⟨cells', hc'⟩ := hty k e.symm
  rw [hc] at hc'
  injection hc' with hc'
  injection hc' with _ hc'
  exact hE q hq hc'
structure BG (w0 V w : World) (g D base : Nat) (b : List Int) (p : Int) (v0 v1 : Value) (l0 : List Int) (l1 : List (List S52)) : Prop where
  I : ze w0 w g b p
  B : Below w0.heap.size w0 w
  K : zk V w g none
  hV : w0.heap.size ≤ V.heap.size
  hbV : base ≤ V.heap.size
  blk : w.heap[D]? = some (.cells #[v0, v1] 30 (0, 0))
  nD : V.heap.size ≤ D
  r0 : Kd.R (Kd.int .i64) 3 w V.heap.size (fun _ => True) v0 l0
  r1 : Kd.S (Kd.slice 52 (kz (k52.M w base (fun k => some k ≠ v0.ownBlock)))) 48 w V.heap.size (fun k => some k ≠ v0.ownBlock) v1 l1
section
variable {w0 V w w1 : World} {g D base : Nat} {b : List Int} {p p' : Int} {v0 v1 v' : Value} {l0 l0' : List Int} {l1 l1' : List (List S52)}
theorem BG.keep (h : BG w0 V w g D base b p v0 v1 l0 l1) (hi : ze w0 w1 g b p') (hb : Below w0.heap.size w0 w1) (hk : zk w w1 g none) : BG w0 V w1 g D base b p' v0 v1 l0 l1 :=
  ⟨hi, hb, h.K.trans hk (.inl rfl), h.hV, h.hbV, hk.blk h.blk (fun e => ze.ne_blk h.I h.blk (by decide) e.symm) (by simp), h.nD,
    Kd.zZ (Kd.R_keep (ze.apart h.I h.r0 (by decide)) hk (fun _ hk => hk.2)) (fun _ _ => trivial),
    kz_S (kz_step fun k q cells _ _ _ _ h118 hc => hk.2 k (yO hc) (fun e => ze.ne_blk h.I hc h118 e.symm) (by simp)) (Kd.xh (Kd.xL (ze.apartS h.I h.r1 (kzE (by decide) (by decide))) hk (fun _ hk => hk.2)) (fun _ hk => hk.1))⟩
theorem BG.below (h : BG w0 V w g D base b p v0 v1 l0 l1) (hb : Below w.heap.size w w1) : BG w0 V w1 g D base b p v0 v1 l0 l1 :=
  h.keep (h.I.below hb) (xe h.B h.B.size hb) (zk.of_below hb g none)
theorem BG.alloc (h : BG w0 V w g D base b p v0 v1 l0 l1) (o : Obj) : BG w0 V (w.alloc o) g D base b p v0 v1 l0 l1 := h.below (zc (Below.refl _ _) o)
theorem BG.drew (h : BG w0 V w g D base b p v0 v1 l0 l1) : BG w0 V w.drew g D base b p v0 v1 l0 l1 := h.below (yh (Below.refl _ _))
theorem BG.cell0 (h : BG w0 V w g D base b p v0 v1 l0 l1) : w.cell? ⟨D, 0, none⟩ = some v0 := (zf h.blk 0).trans rfl
theorem BG.cell1 (h : BG w0 V w g D base b p v0 v1 l0 l1) : w.cell? ⟨D, 1, none⟩ = some v1 := (zf h.blk 1).trans rfl
theorem BG.grow1 (h : BG w0 V w g D base b p v0 v1 l0 l1) (hg : w.grownBy w1 v1.ownBlock) : w1.heap[D]? = some (.cells #[v0, v1] 30 (0, 0)) := xm h.blk hg (Kd.S_away (Kd.S_types h.r1 h.blk (kzE (by decide) (by decide))) (fun _ hk => hk.2))
theorem BG.push1 (h : BG w0 V w g D base b p v0 v1 l0 l1) (hr : Kd.S (Kd.slice 52 (kz (k52.M w base (fun k => some k ≠ v0.ownBlock)))) 48 w1 V.heap.size (fun k => some k ≠ v0.ownBlock) v' l1') (hb : Below V.heap.size w w1) (hg : w.grownBy w1 v1.ownBlock) :
    BG w0 V (w1.setCell ⟨D, 1, none⟩ v') g D base b p v0 v' l0 l1' := by
  have hne := ze.own_neS h.I h.r1 (by decide)
  have hD := Kd.S_away (Kd.S_types h.r1 h.blk (kzE (by decide) (by decide))) (fun _ hk => hk.2)
  have hblk := xm h.blk hg hD
  have hty := Kd.S_typed h.r1
  refine ⟨(h.I.grown hg hne).far (p := ⟨D, 1, none⟩) (ze.ne_blk h.I h.blk (by decide)) _, zh (yX h.B h.hV hb) (Nat.le_trans h.hV h.nD), xl (h.K.trans (zk.of_grown hg g) (Kd.S_base2 h.r1 |>.imp (fun e => e) (fun e => e))) h.nD _ _, h.hV, h.hbV, (yT hblk 1 v'), h.nD, Kd.xH (Kd.zZ (Kd.R_grown (Kd.R_apartR h.r0 (Kd.S_R h.r1) (by decide)) hg (fun _ hk => hk.2)) (fun _ _ => trivial)) hblk (by decide) _ _, kz_S (kz_step fun k q cells _ _ h54 h36 _ hc => ?_) (Kd.S_set hr hblk (kzE (by decide) (by decide)) _ _)⟩
  have h1 : some k ≠ v1.ownBlock := fun e => by
    obtain ⟨cells', hc'⟩ := hty k e.symm
    rw [hc] at hc'
    injection hc' with hc'
    injection hc' with _ hc'
    exact h54 hc'
  have h2 : k ≠ D := fun e => by
    subst e
    have hc' := h.blk
    rw [hc] at hc'
    injection hc' with hc'
    injection hc' with _ hc'
    exact h36 hc'
  exact (Below.heap_setCell w1 ⟨D, 1, none⟩ v' k h2).trans (hg.block k (yO hc) h1)
end
section
variable {w0 V w wa : World} {g D base B n c : Nat} {b : List Int} {p p' : Int} {v0 u va : Value} {l0 l0' : List Int} {l1 l1' : List (List S52)} {oki : Nat → Prop} {row row' : List S52}
theorem BG.start (hI : ze w0 V g b p) (hB : Below w0.heap.size w0 V) (hV : w0.heap.size ≤ V.heap.size) (hbV : base ≤ V.heap.size) (hr : Kd.R (Kd.int .i64) 3 wa V.heap.size (fun _ => True) v0 l0) (hb : Below V.heap.size V wa) :
    BG w0 V (wa.alloc (.cells #[v0, .slice none 0 0] 30)) g wa.heap.size base b p v0 (.slice none 0 0) l0 [] :=
  ⟨(hI.below hb).alloc _, zc (xe hB hV hb) _, zk.of_below (zc hb _) g none, hV, hbV, heap_alloc_new _ _, hb.size, Kd.zE hr _, Kd.S_nil _ _ _ _ _⟩
theorem BG.lend (h : BG w0 V w g D base b p v0 (.slice (some ⟨B, 0, none⟩) n c) l0 l1) (hn : 0 < n) :
    ∃ (oki : Nat → Prop) (u : Value), w.cell? ⟨B, 0, none⟩ = some u ∧ w.frozen? ⟨B, 0, none⟩ = false ∧ (∀ k, oki k → some k ≠ v0.ownBlock ∧ k ≠ B) ∧ Kd.R (kz (k52.M w base (fun k => some k ≠ v0.ownBlock))) 52 w V.heap.size oki u (l1.getD 0 []) ∧
      Kd.H (Kd.slice 52 (kz (k52.M w base (fun k => some k ≠ v0.ownBlock)))) 48 w V.heap.size (fun k => some k ≠ v0.ownBlock) (.slice (some ⟨B, 0, none⟩) n c) l1 0 oki [u] := by
  obtain ⟨oki, cc, hcl, hM, hcc, hfr, hoki, hH⟩ := Kd.S_elem h.r1 ([] : List S52) 0 (by decide) (by omega)
  obtain ⟨u, rfl, hr⟩ := hM
  exact ⟨oki, u, hcc 0 u rfl, hfr 0, hoki, hr, hH⟩
theorem BG.app0 (h : BG w0 V w g D base b p v0 (.slice (some ⟨B, 0, none⟩) n c) l0 l1) (hn : 0 < n) (hoki : ∀ k, oki k → some k ≠ v0.ownBlock ∧ k ≠ B)
    (hu : Kd.R (kz (k52.M w base (fun k => some k ≠ v0.ownBlock))) 52 w V.heap.size oki u row)
    (hH : Kd.H (Kd.slice 52 (kz (k52.M w base (fun k => some k ≠ v0.ownBlock)))) 48 w V.heap.size (fun k => some k ≠ v0.ownBlock) (.slice (some ⟨B, 0, none⟩) n c) l1 0 oki [u])
    (hra : Kd.R (kz (k52.M w base (fun k => some k ≠ v0.ownBlock))) 52 wa V.heap.size (fun k => oki k ∨ some k ≠ v0.ownBlock ∧ w.heap.size ≤ k) va row') (hba : Below V.heap.size w wa) (hga : w.grownBy wa u.ownBlock) :
    BG w0 V (wa.setCell ⟨B, 0, none⟩ va) g D base b p v0 (.slice (some ⟨B, 0, none⟩) n c) l0 (l1.set 0 row') := by
  have hBlt : B < w.heap.size := Kd.S_lt h.r1 B (by simp [Value.ownBlock])
  have hVB : V.heap.size ≤ B := Kd.S_base h.r1 B (by simp [Value.ownBlock])
  have hBty : ∃ cells, w.heap[B]? = some (.cells cells 48 (0, 0)) := Kd.S_typed h.r1 B (by simp [Value.ownBlock])
  have huty := Kd.R_typed hu
  have hub : ∀ k, u.ownBlock = some k → oki k := hu.1
  have ne57 : ∀ k q cells, q ≠ 52 → w.heap[k]? = some (.cells cells q (0, 0)) → some k ≠ u.ownBlock := fun k q cells hq hc e => by
    obtain ⟨cells', hc'⟩ := huty k e.symm
    rw [hc] at hc'
    injection hc' with hc'
    injection hc' with _ hc'
    exact hq hc'
  have neB : ∀ k q cells, q ≠ 48 → w.heap[k]? = some (.cells cells q (0, 0)) → k ≠ B := fun k q cells hq hc e => by
    subst e
    obtain ⟨cells', hc'⟩ := hBty
    rw [hc] at hc'
    injection hc' with hc'
    injection hc' with _ hc'
    exact hq hc'
  have hBu : some B ≠ u.ownBlock := fun e => (hoki B (hub B e.symm)).2 rfl
  have hgu : some g ≠ u.ownBlock := ze.own_ne h.I hu (by decide)
  have hgB : g ≠ B := by obtain ⟨cells, hc⟩ := hBty; exact ze.ne_blk h.I hc (by decide)
  have hDu : some D ≠ u.ownBlock := ne57 D 30 _ (by decide) h.blk
  have hDB : D ≠ B := neB D 30 _ (by decide) h.blk
  have hblk : wa.heap[D]? = some (.cells #[v0, .slice (some ⟨B, 0, none⟩) n c] 30 (0, 0)) := xm h.blk hga hDu
  have h1 := Kd.H_widen hH
  have h2 := Kd.H_grown h1 hga (fun k hk => .inl (hub k hk))
  have h3 := (Kd.H_seg h2 (by decide) (by omega) (seg := [va]) (j := 0) (by exact Nat.le_refl 1) (fun q hq => by
    rw [List.mem_singleton.1 hq]
    exact (Kd.R_val hra).2)).1
  have e1 : wa.setCells B ((0 : Int).toNat * (Kd.slice 52 (kz (k52.M w base (fun k => some k ≠ v0.ownBlock)))).sz + 0) [va] = wa.setCell ⟨B, 0, none⟩ va := rfl
  rw [e1] at h3
  have h4 : Kd.R (kz (k52.M w base (fun k => some k ≠ v0.ownBlock))) 52 (wa.setCell ⟨B, 0, none⟩ va) V.heap.size (fun k => oki k ∨ some k ≠ v0.ownBlock ∧ w.heap.size ≤ k) va row' :=
    Kd.xq (p := ⟨B, 0, none⟩) hra (fun k hk e => hk.elim (fun hk => (hoki k hk).2 e) (fun hk => by have h5 := hk.2; have e' : k = B := e; omega)) va
  have h5 := Kd.H_back h3 (x' := row') (okp := fun k => oki k ∨ some k ≠ v0.ownBlock ∧ w.heap.size ≤ k) ⟨va, rfl, h4⟩ (fun _ hk => hk)
  have h6 := kz_S (P' := k52.M (wa.setCell ⟨B, 0, none⟩ va) base (fun k => some k ≠ v0.ownBlock)) (fun x cs hx => kz_step (fun k q cells _ h57 h54 _ _ hc => (Below.heap_setCell wa ⟨B, 0, none⟩ va k (neB k q cells h54 hc)).trans (hga.block k (yO hc) (ne57 k q cells h57 hc))) x cs hx) h5
  have hgr : ∀ k, v0.ownBlock = some k → oki k → False := fun k e hk => (hoki k hk).1 e.symm
  refine ⟨(h.I.grown hga hgu).far (p := ⟨B, 0, none⟩) hgB va, zh (yX h.B h.hV hba) (Nat.le_trans h.hV hVB), xl (h.K.trans (zk.of_grown hga g) (Kd.R_base2 hu |>.imp (fun e => e) (fun e => e))) hVB _ _, h.hV, h.hbV, (blk_far (p := ⟨B, 0, none⟩) hblk (fun e => hDB e) va), h.nD, ?_, h6⟩
  obtain ⟨cellsB, hcB⟩ := hBty
  exact Kd.xH (Kd.zZ (Kd.R_grown (Kd.R_apartR h.r0 hu (by decide)) hga (fun _ hk => hk.2)) (fun _ _ => trivial)) (xm hcB hga hBu) (by decide) _ _
structure FG (w0 V w : World) (g D base : Nat) (b : List Int) (p : Int) (v0 v1 : Value) (l0 : List Int) (l1 : List (List S52)) : Prop where
  I : ze w0 w g b p
  B : Below w0.heap.size w0 w
  K : zk V w g none
  hV : w0.heap.size ≤ V.heap.size
  hbV : base ≤ V.heap.size
  blk : w.heap[D]? = some (.cells #[v0, v1] 30 (0, 0))
  nD : V.heap.size ≤ D
  r0 : Kd.R (Kd.int .i64) 3 w V.heap.size (fun _ => True) v0 l0
  r1 : Kd.R (Kd.slice 52 k52) 48 w base (fun k => some k ≠ v0.ownBlock) v1 l1
  nv : ∀ k, v1.ownBlock = some k → V.heap.size ≤ k
theorem BG.fin {v1 : Value} (h : BG w0 V w g D base b p v0 v1 l0 l1) : FG w0 V w g D base b p v0 v1 l0 l1 :=
  ⟨h.I, h.B, h.K, h.hV, h.hbV, h.blk, h.nD, h.r0, kz_outs h.hbV (Kd.S_R h.r1), Kd.S_base h.r1⟩
end
theorem take_snoc {α : Type} {L l1 : List (List α)} {x : List α} {j : Int} (hL : L = l1.take j.toNat) (hx : x = l1.getD j.toNat []) (h0 : 0 ≤ j) (h1 : j < (l1.length : Int)) : L ++ [x] = l1.take (j + 1).toNat := by
  have e : (j + 1).toNat = j.toNat + 1 := by omega
  have hl : j.toNat < l1.length := by omega
  rw [e, List.take_add_one, hL, hx, List.getD_eq_getElem?_getD, List.getElem?_eq_getElem hl]
  rfl
theorem cell_g {w w1 : World} {row : Option Nat} (hg : w.grownBy w1 row) {a : Addr} {v : Value} (hc : w.cell? a = some v) (hne : some a.block ≠ row) : w1.cell? a = some v := by
  have h := hg.block a.block (World.block_lt_of_cell? w a hc) hne
  unfold World.cell? at hc ⊢
  rw [h]
  exact hc
structure GG (w0 V w : World) (g D base : Nat) (b : List Int) (p : Int) (v0 v1 : Value) (l0 : List Int) (l1 : List (List S52)) : Prop where
  I : ze w0 w g b p
  B : Below w0.heap.size w0 w
  K : zk V w g none
  blk : w.heap[D]? = some (.cells #[v0, v1] 30 (0, 0))
  r0 : Kd.R (Kd.int .i64) 3 w base (fun _ => True) v0 l0
  r1 : Kd.R (Kd.slice 52 k52) 48 w base (fun k => some k ≠ v0.ownBlock) v1 l1
section
variable {w0 V w wa w1 : World} {g D base C n c : Nat} {b : List Int} {p p' : Int} {v0 v1 v' : Value} {l0 l0' : List Int} {l1 l1' : List (List S52)}
theorem FG.done (h : FG w0 V w g D base b p v0 v1 l0 l1) : GG w0 V w g D base b p v0 v1 l0 l1 := ⟨h.I, h.B, h.K, h.blk, Kd.yq h.r0 h.hbV, h.r1⟩
theorem FG.keep (h : FG w0 V w g D base b p v0 v1 l0 l1) (hi : ze w0 w1 g b p') (hb : Below w0.heap.size w0 w1) (hk : zk w w1 g none) : FG w0 V w1 g D base b p' v0 v1 l0 l1 :=
  ⟨hi, hb, h.K.trans hk (.inl rfl), h.hV, h.hbV, hk.blk h.blk (fun e => ze.ne_blk h.I h.blk (by decide) e.symm) (by simp), h.nD,
    Kd.zZ (Kd.R_keep (ze.apart h.I h.r0 (by decide)) hk (fun _ hk => hk.2)) (fun _ _ => trivial), Kd.zZ (Kd.R_keep (ze.apart h.I h.r1 (by decide)) hk (fun _ hk => hk.2)) (fun _ hk => hk.1), h.nv⟩
theorem FG.below (h : FG w0 V w g D base b p v0 v1 l0 l1) (hb : Below w.heap.size w w1) : FG w0 V w1 g D base b p v0 v1 l0 l1 :=
  h.keep (h.I.below hb) (xe h.B h.B.size hb) (zk.of_below hb g none)
theorem FG.alloc (h : FG w0 V w g D base b p v0 v1 l0 l1) (o : Obj) : FG w0 V (w.alloc o) g D base b p v0 v1 l0 l1 := h.below (zc (Below.refl _ _) o)
theorem FG.drew (h : FG w0 V w g D base b p v0 v1 l0 l1) : FG w0 V w.drew g D base b p v0 v1 l0 l1 := h.below (yh (Below.refl _ _))
theorem FG.cell0 (h : FG w0 V w g D base b p v0 v1 l0 l1) : w.cell? ⟨D, 0, none⟩ = some v0 := (zf h.blk 0).trans rfl
theorem FG.cell1 (h : FG w0 V w g D base b p v0 v1 l0 l1) : w.cell? ⟨D, 1, none⟩ = some v1 := (zf h.blk 1).trans rfl
theorem FG.grow0 (h : FG w0 V w g D base b p v0 v1 l0 l1) (hg : w.grownBy w1 v0.ownBlock) : w1.heap[D]? = some (.cells #[v0, v1] 30 (0, 0)) := xm h.blk hg (Kd.R_away (Kd.y6 h.r0 h.blk (by decide)) (fun _ hk => hk.2))
theorem FG.grow1 (h : FG w0 V w g D base b p v0 v1 l0 l1) (hg : w.grownBy w1 v1.ownBlock) : w1.heap[D]? = some (.cells #[v0, v1] 30 (0, 0)) := xm h.blk hg (Kd.R_away (Kd.y6 h.r1 h.blk (by decide)) (fun _ hk => hk.2))
theorem FG.put0 (h : FG w0 V w g D base b p (.slice (some ⟨C, 0, none⟩) n c) v1 l0 l1) (x : Int) : GG w0 V (w.setCell ⟨C, 0, none⟩ (.int .i64 x)) g D base b p (.slice (some ⟨C, 0, none⟩) n c) v1 (l0.set 0 x) l1 := by
  have hC : (Value.slice (some ⟨C, 0, none⟩) n c).ownBlock = some C := by simp [Value.ownBlock]
  have hVC : V.heap.size ≤ C := Kd.xM h.r0 C hC
  have hgC : some g ≠ some C := hC ▸ ze.own_ne h.I h.r0 (by decide)
  have hDC : some D ≠ some C := hC ▸ Kd.R_away (Kd.y6 h.r0 h.blk (by decide)) (fun _ hk => hk.2)
  refine ⟨h.I.far (p := ⟨C, 0, none⟩) (fun e => hgC (by rw [e])) _, zh h.B (Nat.le_trans h.hV hVC), xl h.K hVC _ _, blk_far (p := ⟨C, 0, none⟩) h.blk (fun e => hDC (by rw [show D = C from e])) _, Kd.yq (Kd.R_putn h.r0 0 x) h.hbV, ?_⟩
  exact Kd.xq (p := ⟨C, 0, none⟩) h.r1 (fun k hk e => hk (by rw [hC, show k = C from e])) _
theorem FG.push0 (h : FG w0 V w g D base b p v0 v1 l0 l1) (hr : Kd.R (Kd.int .i64) 3 w1 V.heap.size (fun _ => True) v' l0') (hb : Below V.heap.size w w1) (hg : w.grownBy w1 v0.ownBlock) (hat : v'.ownBlock = v0.ownBlock ∨ ∃ b, v'.ownBlock = some b ∧ w.heap.size ≤ b) :
    GG w0 V (w1.setCell ⟨D, 0, none⟩ v') g D base b p v' v1 l0' l1 := by
  have hne := ze.own_ne h.I h.r0 (by decide)
  have hblk := FG.grow0 h hg
  exact ⟨(h.I.grown hg hne).far (p := ⟨D, 0, none⟩) (ze.ne_blk h.I h.blk (by decide)) _, zh (yX h.B h.hV hb) (Nat.le_trans h.hV h.nD), xl (h.K.trans (zk.of_grown hg g) (Kd.R_base2 h.r0 |>.imp (fun e => e) (fun e => e))) h.nD _ _, (yT hblk 0 v'), Kd.yq (Kd.xH hr hblk (by decide) _ _) h.hbV, Kd.zZ (Kd.xH (Kd.R_after (v := v0) (v1 := v') (Kd.zZ (ok' := fun k => True ∧ some k ≠ v0.ownBlock) h.r1 (fun k hk => ⟨trivial, hk⟩)) hg hat) hblk (by decide) _ _) (fun _ hk => hk.2)⟩
theorem FG.push1 (h : FG w0 V w g D base b p v0 v1 l0 l1) (hr : Kd.R (Kd.slice 52 k52) 48 w1 base (fun k => some k ≠ v0.ownBlock) v' l1') (hb : Below V.heap.size w w1) (hg : w.grownBy w1 v1.ownBlock) :
    GG w0 V (w1.setCell ⟨D, 1, none⟩ v') g D base b p v0 v' l0 l1' := by
  have hne := ze.own_ne h.I h.r1 (by decide)
  have hblk := FG.grow1 h hg
  have hbb : v1.ownBlock = none ∨ ∃ k, v1.ownBlock = some k ∧ V.heap.size ≤ k := by
    cases e : v1.ownBlock with
    | none => exact .inl rfl
    | some k => exact .inr ⟨k, rfl, h.nv k e⟩
  exact ⟨(h.I.grown hg hne).far (p := ⟨D, 1, none⟩) (ze.ne_blk h.I h.blk (by decide)) _, zh (yX h.B h.hV hb) (Nat.le_trans h.hV h.nD), xl (h.K.trans (zk.of_grown hg g) hbb) h.nD _ _, (yT hblk 1 v'), Kd.yq (Kd.xH (Kd.zZ (Kd.R_grown (Kd.R_apartR h.r0 h.r1 (by decide)) hg (fun _ hk => hk.2)) (fun _ _ => trivial)) hblk (by decide) _ _) h.hbV, Kd.xH hr hblk (by decide) _ _⟩
theorem GG.cell0 (h : GG w0 V w g D base b p v0 v1 l0 l1) : w.cell? ⟨D, 0, none⟩ = some v0 := (zf h.blk 0).trans rfl
theorem GG.cell1 (h : GG w0 V w g D base b p v0 v1 l0 l1) : w.cell? ⟨D, 1, none⟩ = some v1 := (zf h.blk 1).trans rfl
theorem bdone (h : GG w0 V w g D base b p v0 v1 l0 l1) {we : World} {R : Nat} {x0 x1 : Value} (hS : R < V.heap.size) (hB : V.heap[R]? = some (.cells #[x0, x1] 30 (0, 0))) (hK : zk we V g none) (hw : we.heap.size ≤ R) (hg : g ≠ R) (hR : w0.heap.size ≤ R) :
    ((w.setCell ⟨R, 0, none⟩ v0).setCell ⟨R, 1, none⟩ v1).heap[R]? = some (.cells #[v0, v1] 30 (0, 0)) ∧ Kd.R (Kd.int .i64) 3 ((w.setCell ⟨R, 0, none⟩ v0).setCell ⟨R, 1, none⟩ v1) base (fun _ => True) v0 l0 ∧ Kd.R (Kd.slice 52 k52) 48 ((w.setCell ⟨R, 0, none⟩ v0).setCell ⟨R, 1, none⟩ v1) base (fun k => some k ≠ v0.ownBlock) v1 l1 ∧ ze w0 ((w.setCell ⟨R, 0, none⟩ v0).setCell ⟨R, 1, none⟩ v1) g b p ∧ Below w0.heap.size w0 ((w.setCell ⟨R, 0, none⟩ v0).setCell ⟨R, 1, none⟩ v1) ∧ zk we ((w.setCell ⟨R, 0, none⟩ v0).setCell ⟨R, 1, none⟩ v1) g none := by
  have hb : w.heap[R]? = some (.cells #[x0, x1] 30 (0, 0)) := h.K.blk hB (fun e => hg e.symm) (by simp)
  have hb1 := yT hb 0 v0
  have hb2 := yT hb1 1 v1
  exact ⟨hb2, Kd.xH (Kd.xH h.r0 hb (by decide) 0 v0) hb1 (by decide) 1 v1, Kd.xH (Kd.xH h.r1 hb (by decide) 0 v0) hb1 (by decide) 1 v1, (h.I.far (p := ⟨R, 0, none⟩) (fun e => hg e) _).far (p := ⟨R, 1, none⟩) (fun e => hg e) _, zh (zh h.B hR) hR,
    xl (xl (hK.trans h.K (.inl rfl)) hw 0 v0) hw 1 v1⟩
end
def app0 (l : List (List S52)) (x : S52) : List (List S52) := l.set 0 (l.getD 0 [] ++ [x])
def bendF (k : Nat) (b : List Int) (c : Int) (l0 : List Int) (l1 : List (List S52)) (p : Int) : Option (List Int × List (List S52) × Int) :=
  if c = 0 then (zi.f k b p 2).bind fun d => if 0 ≤ d.1 ∧ d.1 < 2 then some (l0.set 0 (if d.1 = 0 then -1 else 100), l1, d.2) else none
  else if c = 1 then some (l0 ++ [0, 0, 0], l1, p)
  else if c = 2 then (zi.f k b p 7).bind fun d => some (l0, app0 l1 ⟨wrap64 (d.1 - 1), [], [], 0⟩, d.2)
  else if c = 3 then (zi.f k b p 6).bind fun d => some (l0, app0 l1 ⟨2, [], [wrap64 (d.1 - 1)], 0⟩, d.2)
  else if c = 4 then (zi.f k b p 7).bind fun d => (zi.f k b d.2 5).bind fun e => (zi.f k b e.2 5).bind fun f => some (l0, app0 l1 ⟨1, [⟨d.1, wrap64 (e.1 - 1), wrap64 (f.1 - 1)⟩], [], 0⟩, f.2)
  else if c = 5 then some (l0, l1 ++ [[], [], []], p)
  else if c = 6 then (zi.f k b p 5).bind fun d => some (l0, app0 l1 ⟨4, [], [], wrap64 (d.1 - 1)⟩, d.2)
  else some (l0, app0 (app0 (app0 (app0 (app0 l1 ⟨3, [], [], 0⟩) ⟨3, [], [], 0⟩) ⟨3, [], [], 0⟩) ⟨3, [], [], 0⟩) ⟨3, [], [], 0⟩, p)
def bendOk (l0 : List Int) (l1 : List (List S52)) : Prop := (0 < l0.length ∧ l0.length < 1000) ∧ (0 < l1.length ∧ l1.length < 1000) ∧ (l1.all fun x => decide (x.length < 1000)) = true
instance (l0 : List Int) (l1 : List (List S52)) : Decidable (bendOk l0 l1) := by unfold bendOk; infer_instance
def xn.f (k : Nat) (s0_0 : List Int) (s0_1 : Int) (l0 : List Int) (l1 : List (List S52)) : Option (List Int × List (List S52) × Int) :=
  if bendOk l0 l1 then (zi.f k s0_0 s0_1 8).bind fun c => bendF k s0_0 c.1 l0 l1 c.2 else none
theorem cell_k {w w1 : World} {g : Nat} (hk : zk w w1 g none) {a : Addr} {v : Value} (hc : w.cell? a = some v) (hne : a.block ≠ g) : w1.cell? a = some v := by
  have h := hk.2 a.block (World.block_lt_of_cell? w a hc) hne (by simp)
  unfold World.cell? at hc ⊢
  rw [h]
  exact hc
section
variable {w0 V w : World} {g D base B n c : Nat} {b : List Int} {p : Int} {v0 u : Value} {l0 : List Int} {l1 : List (List S52)}
theorem BG.gB (h : BG w0 V w g D base b p v0 (.slice (some ⟨B, 0, none⟩) n c) l0 l1) : B ≠ g := by
  obtain ⟨cells, hc⟩ := Kd.S_typed h.r1 B (by simp [Value.ownBlock])
  exact fun e => ze.ne_blk h.I hc (by decide) e.symm
theorem BG.lendU (h : BG w0 V w g D base b p v0 (.slice (some ⟨B, 0, none⟩) n c) l0 l1) (hn : 0 < n) (hc : w.cell? ⟨B, 0, none⟩ = some u) :
    ∃ (oki : Nat → Prop), (∀ k, oki k → some k ≠ v0.ownBlock ∧ k ≠ B) ∧ Kd.R (kz (k52.M w base (fun k => some k ≠ v0.ownBlock))) 52 w V.heap.size oki u (l1.getD 0 []) ∧
      Kd.H (Kd.slice 52 (kz (k52.M w base (fun k => some k ≠ v0.ownBlock)))) 48 w V.heap.size (fun k => some k ≠ v0.ownBlock) (.slice (some ⟨B, 0, none⟩) n c) l1 0 oki [u] ∧ some D ≠ u.ownBlock ∧ some B ≠ u.ownBlock ∧
      (∀ w1 : World, w.grownBy w1 u.ownBlock → w1.frozen? ⟨B, 0, none⟩ = false) := by
  obtain ⟨oki, u', h1, h2, h3, h4, h5⟩ := h.lend hn
  rw [hc] at h1
  injection h1 with h1
  subst h1
  have huty := Kd.R_typed h4
  have hBu : some B ≠ u.ownBlock := fun e => (h3 B (h4.1 B e.symm)).2 rfl
  refine ⟨oki, h3, h4, h5, fun e => ?_, hBu, fun w1 hg => ?_⟩
  · obtain ⟨cells', hc'⟩ := huty D e.symm
    have hd := h.blk
    rw [hc'] at hd
    injection hd with hd
    injection hd with _ hd
    exact absurd hd (by decide)
  · obtain ⟨cells, hb⟩ := Kd.S_typed h.r1 B (by simp [Value.ownBlock])
    exact zg (xm hb hg hBu) 0
end
theorem below_of_grown {w w1 : World} {row : Option Nat} {b : Nat} (hg : w.grownBy w1 row) (h : ∀ k, row = some k → b ≤ k) (hb : b ≤ w.heap.size) : Below b w w1 :=
  ⟨hg.os, hg.tape, hg.output, hg.size, fun k hk => hg.block k (by omega) (fun e => by have := h k e.symm; omega)⟩
def apps : Nat → List (List S52) → List (List S52)
  | 0, l => l
  | n + 1, l => apps n (app0 l ⟨3, [], [], 0⟩)
theorem app0_len (l : List (List S52)) (x : S52) : (app0 l x).length = l.length := by simp [app0]
theorem app0_head (l : List (List S52)) (x : S52) (h : 0 < l.length) : (app0 l x).getD 0 [] = l.getD 0 [] ++ [x] := by
  unfold app0
  rw [List.getD_eq_getElem?_getD, List.getElem?_set_self h]
  rfl
theorem three_r1 (wr : World) (base : Nat) (hb : base ≤ wr.heap.size) : Kd.R (Kd.slice 52 k52) 48 ((((wr.alloc (.cells #[] 52)).alloc (.cells #[] 52)).alloc (.cells #[] 52)).alloc (.cells #[.slice (some ⟨wr.heap.size, 0, none⟩) 0 0, .slice (some ⟨wr.heap.size + 1, 0, none⟩) 0 0, .slice (some ⟨wr.heap.size + 1 + 1, 0, none⟩) 0 0] 48)) base (fun k => wr.heap.size ≤ k) (.slice (some ⟨wr.heap.size + 1 + 1 + 1, 0, none⟩) 3 3) [[], [], []] := by
  have h0 : ∀ o1 o2 o3 o4 : Obj, ((((wr.alloc o1).alloc o2).alloc o3).alloc o4).heap[wr.heap.size]? = some o1 := fun _ _ _ _ => zj (zj (zj (alloc_at rfl) _) _) _
  have h1 : ∀ o1 o2 o3 o4 : Obj, ((((wr.alloc o1).alloc o2).alloc o3).alloc o4).heap[wr.heap.size + 1]? = some o2 := fun _ _ _ _ => zj (zj (alloc_at (by simp)) _) _
  have h2 : ∀ o1 o2 o3 o4 : Obj, ((((wr.alloc o1).alloc o2).alloc o3).alloc o4).heap[wr.heap.size + 1 + 1]? = some o3 := fun _ _ _ _ => zj (alloc_at (by simp)) _
  have h3 : ∀ o1 o2 o3 o4 : Obj, ((((wr.alloc o1).alloc o2).alloc o3).alloc o4).heap[wr.heap.size + 1 + 1 + 1]? = some o4 := fun _ _ _ _ => alloc_at (by simp)
  exact xI (xs := ([[], [], []] : List (List S52))) (cs := [.slice (some ⟨wr.heap.size, 0, none⟩) 0 0, .slice (some ⟨wr.heap.size + 1, 0, none⟩) 0 0, .slice (some ⟨wr.heap.size + 1 + 1, 0, none⟩) 0 0]) (h3 _ _ _ _) (by omega) (by omega) (by simp [maxLen])
    ((((yt.none _ _).snoc (Kd.M_row (R_nought (h0 _ _ _ _) hb ⟨Nat.le_refl _, by omega⟩)) rfl).snoc (Kd.M_row (R_nought (h1 _ _ _ _) (by omega) ⟨by omega, by omega⟩)) rfl).snoc (Kd.M_row (R_nought (h2 _ _ _ _) (by omega) ⟨by omega, by omega⟩)) rfl)
set_option maxHeartbeats 16000000 in
set_option maxRecDepth 100000 in
theorem xn.calls (k : Nat) (g : Nat) (s0_0 : List Int) (s0_1 : Int) (A0 : Option Addr) (c0 : Nat) (l0 : List Int) (A1 : Option Addr) (c1 : Nat) (l1 : List (List S52)) (r1 : List Int) (r2 : List (List S52)) (r3 : Int) (base : Nat) (w0 w : World) (hI : ze w0 w g s0_0 s0_1) (hB : Below w0.heap.size w0 w) (hbase : base ≤ w.heap.size)
    (hr0 : Kd.R (Kd.int .i64) 3 w base (fun _ => True) (.slice A0 l0.length c0) l0) (hr1 : Kd.R (Kd.slice 52 k52) 48 w base (fun _ => True) (.slice A1 l1.length c1) l1) (h : xn.f k s0_0 s0_1 l0 l1 = some (r1, r2, r3)) :
    Calls Tryd.prog 57 #[.pointer (some ⟨g, 0, none⟩), .agg #[.slice A0 l0.length c0, .slice A1 l1.length c1]] w fun e w' => ∃ v0_ v1_ : Value, e = .returned (.agg #[v0_, v1_]) ∧ Kd.R (Kd.int .i64) 3 w' base (fun _ => True) v0_ r1 ∧ Kd.R (Kd.slice 52 k52) 48 w' base (fun k_ => some k_ ≠ (v0_ : Value).ownBlock) v1_ r2 ∧ ze w0 w' g s0_0 r3 ∧ Below w0.heap.size w0 w' ∧ zk w w' g none := by
  have hu36 := Tryd.underlying30
  have h := (show (if bendOk l0 l1 then (zi.f k s0_0 s0_1 8).bind fun c => bendF k s0_0 c.1 l0 l1 c.2 else none) = some (r1, r2, r3) from h)
  have hok : bendOk l0 l1 := Classical.byContradiction fun c => by rw [if_neg c] at h; exact absurd h (by simp)
  rw [if_pos hok] at h
  replace h := Option.bind_eq_some_iff.mp h
  obtain ⟨⟨c, q⟩, PC, h⟩ := h
  have PC := za.mk PC
  have h := za.mk (show bendF k s0_0 c l0 l1 q = some (r1, r2, r3) from h)
  replace hok := za.mk hok
  have HR0 := za.mk hr0
  have HR1 := za.mk hr1
  have HI := za.mk hI
  have HB := za.mk hB
  have Hb := za.mk hbase
  clear hr0 hr1 hI hB hbase
  go_enter Tryd.func57, Tryd.ntmps57
  obtain ⟨V, hV⟩ : ∃ V, V = (w.alloc (.cells #[.slice A0 l0.length c0, .slice A1 l1.length c1] 30)).alloc (.cells #[.slice none 0 0, .slice none 0 0] 30) := ⟨_, rfl⟩
  have hVs := za.mk (show V.heap.size = w.heap.size + 1 + 1 by rw [hV]; simp)
  have hbV : Below w.heap.size w V := by rw [hV]; exact zc (zc (Below.refl _ _) _) _
  have hbp : V.heap[w.heap.size]? = some (.cells #[.slice A0 l0.length c0, .slice A1 l1.length c1] 30 (0, 0)) := by rw [hV]; exact zj (heap_alloc_new _ _) _
  have hbr : V.heap[w.heap.size + 1]? = some (.cells #[.slice none 0 0, .slice none 0 0] 30 (0, 0)) := by rw [hV]; have := heap_alloc_new (w.alloc (.cells #[.slice A0 l0.length c0, .slice A1 l1.length c1] 30)) (.cells #[.slice none 0 0, .slice none 0 0] 30); simpa using this
  have hIV := ze.below HI.out hbV
  have hBV := xe HB.out HB.out.size hbV
  have hR0V := Kd.yc HR0.out hbV
  have hR1V := Kd.yc HR1.out hbV
  replace hbV := za.mk hbV
  replace hbp := za.mk hbp
  replace hbr := za.mk hbr
  replace hIV := za.mk hIV
  replace hBV := za.mk hBV
  replace hV := za.mk hV
  have hC0 := (Kd.zU hR0V).2.2
  replace hC0 := za.mk hC0
  replace hR1V := za.mk hR1V
  clear hR0V
  go_wp2_with (at_builtin; refine Kd.R_append_rows (Rr := Kd.K (Kd.int .i64) V) (w0 := V) (Kd.int .i64) V.heap.size rfl _ _ 22 3 (.int .i64 0) 8 rfl Tryd.underlying22 (by kernel_rfl) rfl (by decide) (by decide) _ [] l0 A0 l0.length c0 (fun _ => True) (fun _ => False) rfl rfl ?q1 ?q2 ?q3 ?q4 ?q5 ?q6 ?q7 ?q8 ?_)
  case q1 => rw [← hV.out]; exact R_nought (alloc_at hVs.out) (by have := hVs.out; omega) trivial
  case q2 => rw [← hV.out]; exact xa.imp_ hC0.out (zc (Below.refl _ _) _) (fun _ _ h => h)
  case q3 => exact fun _ _ h => h
  case q6 => rw [← hV.out]; exact zc (Below.refl _ _) _
  case q7 => have := hVs.out; omega
  case q8 => have := hok.out.1; simp; omega
  rw [← hV.out]
  intro va wa hra hba hga hata
  obtain ⟨Aa, ca, rfl⟩ := Kd.yn hra
  replace hra := za.mk hra
  replace hba := za.mk hba
  clear hga hata
  have HG := za.mk (BG.start hIV.out hBV.out (show w0.heap.size ≤ V.heap.size by have := HB.out.size; have := hVs.out; omega) (show base ≤ V.heap.size by have := Hb.out; have := hVs.out; omega) hra.out hba.out)
  clear hra hba hBV
  go_wp2_with (fail)
  obtain ⟨D, hD⟩ : ∃ D, D = wa.heap.size := ⟨_, rfl⟩
  rw [← hD] at HG ⊢
  clear hD
  go_loopg [6] l1.length (fun m v6 w' => ∃ (j : Int) (L : List (List S52)) (v1 : Value), v6 = .int .i64 j ∧ za (j + m = l1.length ∧ 0 ≤ j ∧ L = l1.take j.toNat) ∧ za (BG w0 V w' g D base s0_0 s0_1 (.slice Aa l0.length ca) v1 l0 L))
  case atStart => exact ⟨0, [], .slice none 0 0, rfl, ⟨by simp⟩, HG⟩
  case round =>
    clear HG
    obtain ⟨j, L, v1, rfl, hj, HG⟩ := hrel
    have hpb : wr.heap[w.heap.size]? = some (.cells #[.slice A0 l0.length c0, .slice A1 l1.length c1] 30 (0, 0)) := HG.out.K.blk hbp.out (by have := ze.lt HI.out; omega) (by simp)
    have hp1 : wr.cell? ⟨w.heap.size, 1, none⟩ = some (.slice A1 l1.length c1) := (zf hpb 1).trans rfl
    clear hpb
    cases gk with
    | zero =>
      have cb : decide (j < l1.length) = false := by have := hj.out; exact decide_eq_false (by omega)
      have hL : l1 = L := by have h1 := hj.out; rw [h1.2.2]; exact (List.take_of_length_le (by omega)).symm
      subst hL
      go_wp2_with (fail)
      refine (zi.calls k g s0_0 s0_1 8 c q w0 _ HG.out.I HG.out.B PC.out).mono ?_
      rintro e wp ⟨rfl, hi1, hb1, hk1⟩
      have HP := za.mk (HG.out.keep hi1 hb1 hk1)
      clear HG hi1 hb1 hk1 PC hj cb hp1
      replace h := h.out
      unfold bendF at h
      obtain ⟨C, cC, hv0, _, _, _⟩ := Kd.R_form HP.out.r0 hok.out.1.1
      injection hv0 with hv0 _ hcc
      subst hv0
      clear hcc cC
      obtain ⟨B, cB, hv1, _, _, _⟩ := Kd.S_form HP.out.r1 hok.out.2.1.1
      subst hv1
      have hlN : 0 < l1.length := hok.out.2.1.1
      have hlM : 0 < l0.length := hok.out.1.1
      obtain ⟨oki0, u0, hB0, -, -, hu0, -⟩ := BG.lend HP.out hlN
      obtain ⟨x0, hx0e⟩ : ∃ x0, x0 = l1.getD 0 [] := ⟨_, rfl⟩
      rw [← hx0e] at hu0
      obtain ⟨Au, cu, hu0e⟩ := Kd.yn hu0
      subst hu0e
      have hx0 : x0.length < 1000 := by
        have h1 := List.all_eq_true.mp hok.out.2.2 (l1[0]) (List.getElem_mem _)
        rw [hx0e, List.getD_eq_getElem?_getD, List.getElem?_eq_getElem hlN]
        exact of_decide_eq_true h1
      replace hx0 := za.mk hx0
      replace hx0e := za.mk hx0e
      have Hb2 : base ≤ V.heap.size := HP.out.hbV
      replace Hb2 := za.mk Hb2
      clear hu0
      by_cases k0 : c = 0
      · rw [if_pos k0] at h
        replace k0 : (c == 0) = true := beq_iff_eq.mpr k0
        replace h := Option.bind_eq_some_iff.mp h
        obtain ⟨⟨d, q2⟩, P5, h⟩ := h
        have P5 := za.mk (show zi.f k s0_0 q 2 = some (d, q2) from P5)
        have cd : 0 ≤ d ∧ d < 2 := Classical.byContradiction fun c1 => by rw [if_neg c1] at h; exact absurd h (by simp)
        rw [if_pos cd] at h
        have HF0 := za.mk (BG.fin HP.out)
        clear HP
        go_upto_region 12 with (fail)
        have hd : d = 0 ∨ d = 1 := by omega
        clear cd
        rcases hd with rfl | rfl
        · skip
          have h := (show some (l0.set 0 (-1), l1, q2) = some (r1, r2, r3) from h)
          simp only [Option.some.injEq, Prod.mk.injEq] at h
          obtain ⟨hr1, hr2, hr3⟩ := h
          subst hr1 hr2 hr3
          refine xi (n := 9) (S := fun w' => w'.cell? ⟨D, 0, none⟩ = some (.slice (some ⟨C, 0, none⟩) l0.length ca)) (ds := [8]) #[false, false, false, false, false, false, false, false, false] (by kernel_rfl) rfl rfl ((FG.cell0 (FG.drew HF0.out))) (fun hHeld => ?_)
          refine zF (i := 0) (N := some 50) (v := ?_) (a' := ?_) #[true, false, false, false, false, false, false, false, false] rfl rfl (by kernel_rfl) (fun _ _ _ h => h) (Or.inl ⟨by rfl, ?_⟩) ?_ ?_
          rotate_left
          · intro w'
            go_simp
            with_reducible rfl
          rotate_left
          · simp only [Act.put, List.setIfInBounds_toArray, List.set_cons_zero, List.set_cons_succ, zn, zo]
            rfl
          refine zF (i := 3) (N := some 53) (v := ?_) (a' := ?_) #[true, false, false, true, false, false, false, false, false] rfl rfl (by kernel_rfl) (fun _ _ _ h => h) (Or.inl ⟨by rfl, ?_⟩) ?_ ?_
          rotate_left
          · intro w'
            go_simp
            with_reducible rfl
          rotate_left
          · simp only [Act.put, List.setIfInBounds_toArray, List.set_cons_zero, List.set_cons_succ, zn, zo]
            rfl
          refine yK (i := 1) (N := some 51) (v := ?_) (a' := ?_) #[true, true, false, true, false, false, false, false, false] rfl rfl (by kernel_rfl) (fun _ _ _ h => h) (Or.inl ⟨by rfl, ?_⟩) hHeld ?_ ?_
          rotate_left
          · intro w' s0
            go_simp
            with_reducible rfl
          rotate_left
          · simp only [Act.put, List.setIfInBounds_toArray, List.set_cons_zero, List.set_cons_succ, zn, zo]
            rfl
          refine join_ (σ := Nat) 4 #[true, true, true, true, true, false, false, false, false] (fun s => [(52, .slice (some ⟨s, 0, none⟩) 2 2), (54, .int .i64 0)]) (fun s w' => w'.cell? ⟨D, 0, none⟩ = some (.slice (some ⟨C, 0, none⟩) l0.length ca) ∧ za (FG w0 V w' g D base s0_0 q2 (.slice (some ⟨C, 0, none⟩) l0.length ca) (.slice (some ⟨B, 0, none⟩) l1.length cB) l0 l1) ∧ w'.cell? ⟨s, 0, none⟩ = some (.int .i64 (-1))) ?_ ?_
          rotate_left
          · intro hCont
            refine two_ (i := 2) (j := 4) (Ni := some 52) (Nj := some 54) #[true, true, true, true, false, false, false, false, false] #[true, true, false, true, true, false, false, false, false] rfl rfl rfl rfl (by kernel_rfl) (by decide) (by decide) (fun K hK => ?_) (fun K hK => ?_)
            · skip
              refine yI (w1 := ?_) (v := ?_) (by rfl) rfl ?_ ?_
              rotate_left 2
              · go_simp
                constructor
                · rfl
                · rfl
              refine hK.out _ _ ((FG.cell0 (show FG w0 V _ g D base s0_0 q (.slice (some ⟨C, 0, none⟩) l0.length ca) (.slice (some ⟨B, 0, none⟩) l1.length cB) l0 l1 from by repeat (first | exact HF0.out | apply FG.alloc | apply FG.drew)))) (fun hHeld => ?_)
              clear hK K
              refine zQ (a' := ?_) ?_ ?_
              rotate_left
              · show Act.put _ (some 52) _ = _
                simp only [Act.put, List.setIfInBounds_toArray, List.set_cons_zero, List.set_cons_succ, zn, zo]
                rfl
              refine yM (i := 4) (N := some 54) #[true, true, true, true, true, false, false, false, false] rfl rfl (by kernel_rfl) (by decide) (fun K hK => ?_)
              refine y7 Tryd.func56 (by kernel_rfl) rfl #[.pointer (some ⟨g, 0, none⟩), .int .i64 2] (by rfl) rfl rfl (by simp only [List.map_toArray, List.map_cons, List.map_nil]; rfl) ?_
              with_reducible refine (zi.calls k g s0_0 q 2 0 q2 w0 _ (by repeat (first | exact HF0.out.I | apply ze.alloc | apply ze.drew)) (by repeat (first | exact HF0.out.B | apply zc | apply zd)) P5.out).mono ?_
              rintro e wc ⟨rfl, hi2, hb2, hk2⟩
              refine ⟨_, rfl, ?_⟩
              have HG2 := za.mk (FG.keep (by repeat (first | exact HF0.out | apply FG.alloc | apply FG.drew)) hi2 hb2 hk2)
              refine hK.out _ _ ((FG.cell0 (show FG w0 V _ g D base s0_0 q2 (.slice (some ⟨C, 0, none⟩) l0.length ca) (.slice (some ⟨B, 0, none⟩) l1.length cB) l0 l1 from by repeat (first | exact HG2.out | apply FG.alloc | apply FG.drew)))) (fun hHeld => ?_)
              clear hK K
              refine zQ (a' := ?_) ?_ ?_
              rotate_left
              · show Act.put _ (some 54) _ = _
                simp only [Act.put, List.setIfInBounds_toArray, List.set_cons_zero, List.set_cons_succ, zn, zo]
                rfl
              exact zQ (by simp only [yZ, Act.put, List.setIfInBounds_toArray, List.set_cons_zero, List.set_cons_succ]) (hCont _ _ ⟨(FG.cell0 (show FG w0 V _ g D base s0_0 q2 (.slice (some ⟨C, 0, none⟩) l0.length ca) (.slice (some ⟨B, 0, none⟩) l1.length cB) l0 l1 from by repeat (first | exact HG2.out | apply FG.alloc | apply FG.drew))), ⟨(show FG w0 V _ g D base s0_0 q2 (.slice (some ⟨C, 0, none⟩) l0.length ca) (.slice (some ⟨B, 0, none⟩) l1.length cB) l0 l1 from by repeat (first | exact HG2.out | apply FG.alloc | apply FG.drew))⟩, (zf (hk2.blk (heap_alloc_new _ _) (Nat.ne_of_gt (ze.lt HF0.out.I)) (by simp)) 0).trans rfl⟩)
            · skip
              refine y7 Tryd.func56 (by kernel_rfl) rfl #[.pointer (some ⟨g, 0, none⟩), .int .i64 2] (by rfl) rfl rfl (by simp only [List.map_toArray, List.map_cons, List.map_nil]; rfl) ?_
              with_reducible refine (zi.calls k g s0_0 q 2 0 q2 w0 _ (by repeat (first | exact HF0.out.I | apply ze.alloc | apply ze.drew)) (by repeat (first | exact HF0.out.B | apply zc | apply zd)) P5.out).mono ?_
              rintro e wc ⟨rfl, hi2, hb2, hk2⟩
              refine ⟨_, rfl, ?_⟩
              have HG2 := za.mk (FG.keep (by repeat (first | exact HF0.out | apply FG.alloc | apply FG.drew)) hi2 hb2 hk2)
              refine hK.out _ _ ((FG.cell0 (show FG w0 V _ g D base s0_0 q2 (.slice (some ⟨C, 0, none⟩) l0.length ca) (.slice (some ⟨B, 0, none⟩) l1.length cB) l0 l1 from by repeat (first | exact HG2.out | apply FG.alloc | apply FG.drew)))) (fun hHeld => ?_)
              clear hK K
              refine zQ (a' := ?_) ?_ ?_
              rotate_left
              · show Act.put _ (some 54) _ = _
                simp only [Act.put, List.setIfInBounds_toArray, List.set_cons_zero, List.set_cons_succ, zn, zo]
                rfl
              refine yM (i := 2) (N := some 52) #[true, true, true, true, true, false, false, false, false] rfl rfl (by kernel_rfl) (by decide) (fun K hK => ?_)
              refine yI (w1 := ?_) (v := ?_) (by rfl) rfl ?_ ?_
              rotate_left 2
              · go_simp
                constructor
                · rfl
                · rfl
              refine hK.out _ _ ((FG.cell0 (show FG w0 V _ g D base s0_0 q2 (.slice (some ⟨C, 0, none⟩) l0.length ca) (.slice (some ⟨B, 0, none⟩) l1.length cB) l0 l1 from by repeat (first | exact HG2.out | apply FG.alloc | apply FG.drew)))) (fun hHeld => ?_)
              clear hK K
              refine zQ (a' := ?_) ?_ ?_
              rotate_left
              · show Act.put _ (some 52) _ = _
                simp only [Act.put, List.setIfInBounds_toArray, List.set_cons_zero, List.set_cons_succ, zn, zo]
                rfl
              exact zQ (by simp only [yZ, Act.put, List.setIfInBounds_toArray, List.set_cons_zero, List.set_cons_succ]) (hCont _ _ ⟨(FG.cell0 (show FG w0 V _ g D base s0_0 q2 (.slice (some ⟨C, 0, none⟩) l0.length ca) (.slice (some ⟨B, 0, none⟩) l1.length cB) l0 l1 from by repeat (first | exact HG2.out | apply FG.alloc | apply FG.drew))), ⟨(show FG w0 V _ g D base s0_0 q2 (.slice (some ⟨C, 0, none⟩) l0.length ca) (.slice (some ⟨B, 0, none⟩) l1.length cB) l0 l1 from by repeat (first | exact HG2.out | apply FG.alloc | apply FG.drew))⟩, (zf (heap_alloc_new _ _) 0).trans rfl⟩)
          rintro sL wj ⟨hHeld, HGj, hcj⟩
          have hCe := Kd.R_celln (0 : Int) HGj.out.r0 0 (Int.le_refl _) (by omega)
          obtain ⟨hcC, hfC⟩ := hCe
          have hcC : wj.cell? ⟨C, 0, none⟩ = some _ := hcC
          have hfC : wj.frozen? ⟨C, 0, none⟩ = false := hfC
          refine zQ (a' := ?_) ?_ ?_
          rotate_left
          · simp only [yZ, Act.put, List.setIfInBounds_toArray, List.set_cons_zero, List.set_cons_succ]
            rfl
          refine zF (i := 5) (N := some 55) (v := ?_) (a' := ?_) #[true, true, true, true, true, true, false, false, false] rfl rfl (by kernel_rfl) (fun _ _ _ h => h) (Or.inl ⟨by rfl, ?_⟩) ?_ ?_
          rotate_left
          · intro w'
            go_simp
            with_reducible rfl
          rotate_left
          · simp only [Act.put, List.setIfInBounds_toArray, List.set_cons_zero, List.set_cons_succ, zn, zo]
            rfl
          refine yM (i := 6) (N := some 56) #[true, true, true, true, true, true, true, false, false] rfl rfl (by kernel_rfl) (by decide) (fun K hK => ?_)
          refine yI (w1 := ?_) (v := ?_) (by rfl) rfl ?_ ?_
          rotate_left 2
          · go_simp
            constructor
            · rfl
            · rfl
          refine hK.out _ _ (hHeld) (fun hHeld => ?_)
          clear hK K
          refine zQ (a' := ?_) ?_ ?_
          rotate_left
          · show Act.put _ (some 56) _ = _
            simp only [Act.put, List.setIfInBounds_toArray, List.set_cons_zero, List.set_cons_succ, zn, zo]
            rfl
          refine zF (i := 7) (N := some 57) (v := ?_) (a' := ?_) #[true, true, true, true, true, true, true, true, false] rfl rfl (by kernel_rfl) (fun _ _ _ h => h) (Or.inl ⟨by rfl, ?_⟩) ?_ ?_
          rotate_left
          · intro w'
            go_simp
            with_reducible rfl
          rotate_left
          · simp only [Act.put, List.setIfInBounds_toArray, List.set_cons_zero, List.set_cons_succ, zn, zo]
            rfl
          refine last_ (i := 8) (N := none) #[true, true, true, true, true, true, true, true, true] rfl rfl (by kernel_rfl) (by decide) (fun K hK => ?_)
          refine skip_ (w1 := ?_) (by rfl) rfl ?_ ?_
          rotate_left
          · go_simp
            rfl
          refine hK.out _ _ ?_
          clear hK K
          refine xA (by kernel_rfl) ?_
          have HF := za.mk (FG.put0 HGj.out (-1))
          clear hcj hcC hfC HGj HF0
          generalize hwE : wj.setCell ⟨C, 0, none⟩ (.int .i64 (-1)) = wE at HF ⊢
          clear hwE
          have hbR : wE.heap[w.heap.size + 1]? = some (.cells #[.slice none 0 0, .slice none 0 0] 30 (0, 0)) := HF.out.K.blk hbr.out (by have := ze.lt HI.out; omega) (by simp)
          have hc0 := HF.out.cell0
          have hc1 := HF.out.cell1
          have hbS := yT hbR 0 (.slice (some ⟨C, 0, none⟩) l0.length ca)
          have hd0 : wE.cell? ⟨w.heap.size + 1, 0, none⟩ = some (.slice none 0 0) := (zf hbR 0).trans rfl
          have hf0 : wE.frozen? ⟨w.heap.size + 1, 0, none⟩ = false := zg hbR 0
          have hd1 : (wE.setCell ⟨w.heap.size + 1, 0, none⟩ (.slice (some ⟨C, 0, none⟩) l0.length ca)).cell? ⟨w.heap.size + 1, 1, none⟩ = some (.slice none 0 0) := (zf hbS 1).trans rfl
          have hf1 : (wE.setCell ⟨w.heap.size + 1, 0, none⟩ (.slice (some ⟨C, 0, none⟩) l0.length ca)).frozen? ⟨w.heap.size + 1, 1, none⟩ = false := zg hbS 1
          have hDn := za.mk (bdone HF.out (we := w) (R := w.heap.size + 1) (by have := hVs.out; omega) hbr.out (zk.of_below hbV.out g none) (Nat.le_succ _) (by have := ze.lt HI.out; omega) (by have := HB.out.size; omega))
          clear hbR hbS
          go_wp2_with (fail)
          exact bodyPost_ret (results_cell_row rfl _ _ (w.heap.size + 1) 30 _ (0, 0) _ rfl hDn.out.1 Tryd.underlying30 rfl (show (Tryd.prog.info? 30).map (·.size) = some 2 by kernel_rfl)) rfl ⟨_, _, rfl, hDn.out.2⟩
        · skip
          have h := (show some (l0.set 0 (100), l1, q2) = some (r1, r2, r3) from h)
          simp only [Option.some.injEq, Prod.mk.injEq] at h
          obtain ⟨hr1, hr2, hr3⟩ := h
          subst hr1 hr2 hr3
          refine xi (n := 9) (S := fun w' => w'.cell? ⟨D, 0, none⟩ = some (.slice (some ⟨C, 0, none⟩) l0.length ca)) (ds := [8]) #[false, false, false, false, false, false, false, false, false] (by kernel_rfl) rfl rfl ((FG.cell0 (FG.drew HF0.out))) (fun hHeld => ?_)
          refine zF (i := 0) (N := some 50) (v := ?_) (a' := ?_) #[true, false, false, false, false, false, false, false, false] rfl rfl (by kernel_rfl) (fun _ _ _ h => h) (Or.inl ⟨by rfl, ?_⟩) ?_ ?_
          rotate_left
          · intro w'
            go_simp
            with_reducible rfl
          rotate_left
          · simp only [Act.put, List.setIfInBounds_toArray, List.set_cons_zero, List.set_cons_succ, zn, zo]
            rfl
          refine zF (i := 3) (N := some 53) (v := ?_) (a' := ?_) #[true, false, false, true, false, false, false, false, false] rfl rfl (by kernel_rfl) (fun _ _ _ h => h) (Or.inl ⟨by rfl, ?_⟩) ?_ ?_
          rotate_left
          · intro w'
            go_simp
            with_reducible rfl
          rotate_left
          · simp only [Act.put, List.setIfInBounds_toArray, List.set_cons_zero, List.set_cons_succ, zn, zo]
            rfl
          refine yK (i := 1) (N := some 51) (v := ?_) (a' := ?_) #[true, true, false, true, false, false, false, false, false] rfl rfl (by kernel_rfl) (fun _ _ _ h => h) (Or.inl ⟨by rfl, ?_⟩) hHeld ?_ ?_
          rotate_left
          · intro w' s0
            go_simp
            with_reducible rfl
          rotate_left
          · simp only [Act.put, List.setIfInBounds_toArray, List.set_cons_zero, List.set_cons_succ, zn, zo]
            rfl
          refine join_ (σ := Nat) 4 #[true, true, true, true, true, false, false, false, false] (fun s => [(52, .slice (some ⟨s, 0, none⟩) 2 2), (54, .int .i64 1)]) (fun s w' => w'.cell? ⟨D, 0, none⟩ = some (.slice (some ⟨C, 0, none⟩) l0.length ca) ∧ za (FG w0 V w' g D base s0_0 q2 (.slice (some ⟨C, 0, none⟩) l0.length ca) (.slice (some ⟨B, 0, none⟩) l1.length cB) l0 l1) ∧ w'.cell? ⟨s, 1, none⟩ = some (.int .i64 (100))) ?_ ?_
          rotate_left
          · intro hCont
            refine two_ (i := 2) (j := 4) (Ni := some 52) (Nj := some 54) #[true, true, true, true, false, false, false, false, false] #[true, true, false, true, true, false, false, false, false] rfl rfl rfl rfl (by kernel_rfl) (by decide) (by decide) (fun K hK => ?_) (fun K hK => ?_)
            · skip
              refine yI (w1 := ?_) (v := ?_) (by rfl) rfl ?_ ?_
              rotate_left 2
              · go_simp
                constructor
                · rfl
                · rfl
              refine hK.out _ _ ((FG.cell0 (show FG w0 V _ g D base s0_0 q (.slice (some ⟨C, 0, none⟩) l0.length ca) (.slice (some ⟨B, 0, none⟩) l1.length cB) l0 l1 from by repeat (first | exact HF0.out | apply FG.alloc | apply FG.drew)))) (fun hHeld => ?_)
              clear hK K
              refine zQ (a' := ?_) ?_ ?_
              rotate_left
              · show Act.put _ (some 52) _ = _
                simp only [Act.put, List.setIfInBounds_toArray, List.set_cons_zero, List.set_cons_succ, zn, zo]
                rfl
              refine yM (i := 4) (N := some 54) #[true, true, true, true, true, false, false, false, false] rfl rfl (by kernel_rfl) (by decide) (fun K hK => ?_)
              refine y7 Tryd.func56 (by kernel_rfl) rfl #[.pointer (some ⟨g, 0, none⟩), .int .i64 2] (by rfl) rfl rfl (by simp only [List.map_toArray, List.map_cons, List.map_nil]; rfl) ?_
              with_reducible refine (zi.calls k g s0_0 q 2 1 q2 w0 _ (by repeat (first | exact HF0.out.I | apply ze.alloc | apply ze.drew)) (by repeat (first | exact HF0.out.B | apply zc | apply zd)) P5.out).mono ?_
              rintro e wc ⟨rfl, hi2, hb2, hk2⟩
              refine ⟨_, rfl, ?_⟩
              have HG2 := za.mk (FG.keep (by repeat (first | exact HF0.out | apply FG.alloc | apply FG.drew)) hi2 hb2 hk2)
              refine hK.out _ _ ((FG.cell0 (show FG w0 V _ g D base s0_0 q2 (.slice (some ⟨C, 0, none⟩) l0.length ca) (.slice (some ⟨B, 0, none⟩) l1.length cB) l0 l1 from by repeat (first | exact HG2.out | apply FG.alloc | apply FG.drew)))) (fun hHeld => ?_)
              clear hK K
              refine zQ (a' := ?_) ?_ ?_
              rotate_left
              · show Act.put _ (some 54) _ = _
                simp only [Act.put, List.setIfInBounds_toArray, List.set_cons_zero, List.set_cons_succ, zn, zo]
                rfl
              exact zQ (by simp only [yZ, Act.put, List.setIfInBounds_toArray, List.set_cons_zero, List.set_cons_succ]) (hCont _ _ ⟨(FG.cell0 (show FG w0 V _ g D base s0_0 q2 (.slice (some ⟨C, 0, none⟩) l0.length ca) (.slice (some ⟨B, 0, none⟩) l1.length cB) l0 l1 from by repeat (first | exact HG2.out | apply FG.alloc | apply FG.drew))), ⟨(show FG w0 V _ g D base s0_0 q2 (.slice (some ⟨C, 0, none⟩) l0.length ca) (.slice (some ⟨B, 0, none⟩) l1.length cB) l0 l1 from by repeat (first | exact HG2.out | apply FG.alloc | apply FG.drew))⟩, (zf (hk2.blk (heap_alloc_new _ _) (Nat.ne_of_gt (ze.lt HF0.out.I)) (by simp)) 1).trans rfl⟩)
            · skip
              refine y7 Tryd.func56 (by kernel_rfl) rfl #[.pointer (some ⟨g, 0, none⟩), .int .i64 2] (by rfl) rfl rfl (by simp only [List.map_toArray, List.map_cons, List.map_nil]; rfl) ?_
              with_reducible refine (zi.calls k g s0_0 q 2 1 q2 w0 _ (by repeat (first | exact HF0.out.I | apply ze.alloc | apply ze.drew)) (by repeat (first | exact HF0.out.B | apply zc | apply zd)) P5.out).mono ?_
              rintro e wc ⟨rfl, hi2, hb2, hk2⟩
              refine ⟨_, rfl, ?_⟩
              have HG2 := za.mk (FG.keep (by repeat (first | exact HF0.out | apply FG.alloc | apply FG.drew)) hi2 hb2 hk2)
              refine hK.out _ _ ((FG.cell0 (show FG w0 V _ g D base s0_0 q2 (.slice (some ⟨C, 0, none⟩) l0.length ca) (.slice (some ⟨B, 0, none⟩) l1.length cB) l0 l1 from by repeat (first | exact HG2.out | apply FG.alloc | apply FG.drew)))) (fun hHeld => ?_)
              clear hK K
              refine zQ (a' := ?_) ?_ ?_
              rotate_left
              · show Act.put _ (some 54) _ = _
                simp only [Act.put, List.setIfInBounds_toArray, List.set_cons_zero, List.set_cons_succ, zn, zo]
                rfl
              refine yM (i := 2) (N := some 52) #[true, true, true, true, true, false, false, false, false] rfl rfl (by kernel_rfl) (by decide) (fun K hK => ?_)
              refine yI (w1 := ?_) (v := ?_) (by rfl) rfl ?_ ?_
              rotate_left 2
              · go_simp
                constructor
                · rfl
                · rfl
              refine hK.out _ _ ((FG.cell0 (show FG w0 V _ g D base s0_0 q2 (.slice (some ⟨C, 0, none⟩) l0.length ca) (.slice (some ⟨B, 0, none⟩) l1.length cB) l0 l1 from by repeat (first | exact HG2.out | apply FG.alloc | apply FG.drew)))) (fun hHeld => ?_)
              clear hK K
              refine zQ (a' := ?_) ?_ ?_
              rotate_left
              · show Act.put _ (some 52) _ = _
                simp only [Act.put, List.setIfInBounds_toArray, List.set_cons_zero, List.set_cons_succ, zn, zo]
                rfl
              exact zQ (by simp only [yZ, Act.put, List.setIfInBounds_toArray, List.set_cons_zero, List.set_cons_succ]) (hCont _ _ ⟨(FG.cell0 (show FG w0 V _ g D base s0_0 q2 (.slice (some ⟨C, 0, none⟩) l0.length ca) (.slice (some ⟨B, 0, none⟩) l1.length cB) l0 l1 from by repeat (first | exact HG2.out | apply FG.alloc | apply FG.drew))), ⟨(show FG w0 V _ g D base s0_0 q2 (.slice (some ⟨C, 0, none⟩) l0.length ca) (.slice (some ⟨B, 0, none⟩) l1.length cB) l0 l1 from by repeat (first | exact HG2.out | apply FG.alloc | apply FG.drew))⟩, (zf (heap_alloc_new _ _) 1).trans rfl⟩)
          rintro sL wj ⟨hHeld, HGj, hcj⟩
          have hCe := Kd.R_celln (0 : Int) HGj.out.r0 0 (Int.le_refl _) (by omega)
          obtain ⟨hcC, hfC⟩ := hCe
          have hcC : wj.cell? ⟨C, 0, none⟩ = some _ := hcC
          have hfC : wj.frozen? ⟨C, 0, none⟩ = false := hfC
          refine zQ (a' := ?_) ?_ ?_
          rotate_left
          · simp only [yZ, Act.put, List.setIfInBounds_toArray, List.set_cons_zero, List.set_cons_succ]
            rfl
          refine zF (i := 5) (N := some 55) (v := ?_) (a' := ?_) #[true, true, true, true, true, true, false, false, false] rfl rfl (by kernel_rfl) (fun _ _ _ h => h) (Or.inl ⟨by rfl, ?_⟩) ?_ ?_
          rotate_left
          · intro w'
            go_simp
            with_reducible rfl
          rotate_left
          · simp only [Act.put, List.setIfInBounds_toArray, List.set_cons_zero, List.set_cons_succ, zn, zo]
            rfl
          refine yM (i := 6) (N := some 56) #[true, true, true, true, true, true, true, false, false] rfl rfl (by kernel_rfl) (by decide) (fun K hK => ?_)
          refine yI (w1 := ?_) (v := ?_) (by rfl) rfl ?_ ?_
          rotate_left 2
          · go_simp
            constructor
            · rfl
            · rfl
          refine hK.out _ _ (hHeld) (fun hHeld => ?_)
          clear hK K
          refine zQ (a' := ?_) ?_ ?_
          rotate_left
          · show Act.put _ (some 56) _ = _
            simp only [Act.put, List.setIfInBounds_toArray, List.set_cons_zero, List.set_cons_succ, zn, zo]
            rfl
          refine zF (i := 7) (N := some 57) (v := ?_) (a' := ?_) #[true, true, true, true, true, true, true, true, false] rfl rfl (by kernel_rfl) (fun _ _ _ h => h) (Or.inl ⟨by rfl, ?_⟩) ?_ ?_
          rotate_left
          · intro w'
            go_simp
            with_reducible rfl
          rotate_left
          · simp only [Act.put, List.setIfInBounds_toArray, List.set_cons_zero, List.set_cons_succ, zn, zo]
            rfl
          refine last_ (i := 8) (N := none) #[true, true, true, true, true, true, true, true, true] rfl rfl (by kernel_rfl) (by decide) (fun K hK => ?_)
          refine skip_ (w1 := ?_) (by rfl) rfl ?_ ?_
          rotate_left
          · go_simp
            rfl
          refine hK.out _ _ ?_
          clear hK K
          refine xA (by kernel_rfl) ?_
          have HF := za.mk (FG.put0 HGj.out (100))
          clear hcj hcC hfC HGj HF0
          generalize hwE : wj.setCell ⟨C, 0, none⟩ (.int .i64 (100)) = wE at HF ⊢
          clear hwE
          have hbR : wE.heap[w.heap.size + 1]? = some (.cells #[.slice none 0 0, .slice none 0 0] 30 (0, 0)) := HF.out.K.blk hbr.out (by have := ze.lt HI.out; omega) (by simp)
          have hc0 := HF.out.cell0
          have hc1 := HF.out.cell1
          have hbS := yT hbR 0 (.slice (some ⟨C, 0, none⟩) l0.length ca)
          have hd0 : wE.cell? ⟨w.heap.size + 1, 0, none⟩ = some (.slice none 0 0) := (zf hbR 0).trans rfl
          have hf0 : wE.frozen? ⟨w.heap.size + 1, 0, none⟩ = false := zg hbR 0
          have hd1 : (wE.setCell ⟨w.heap.size + 1, 0, none⟩ (.slice (some ⟨C, 0, none⟩) l0.length ca)).cell? ⟨w.heap.size + 1, 1, none⟩ = some (.slice none 0 0) := (zf hbS 1).trans rfl
          have hf1 : (wE.setCell ⟨w.heap.size + 1, 0, none⟩ (.slice (some ⟨C, 0, none⟩) l0.length ca)).frozen? ⟨w.heap.size + 1, 1, none⟩ = false := zg hbS 1
          have hDn := za.mk (bdone HF.out (we := w) (R := w.heap.size + 1) (by have := hVs.out; omega) hbr.out (zk.of_below hbV.out g none) (Nat.le_succ _) (by have := ze.lt HI.out; omega) (by have := HB.out.size; omega))
          clear hbR hbS
          go_wp2_with (fail)
          exact bodyPost_ret (results_cell_row rfl _ _ (w.heap.size + 1) 30 _ (0, 0) _ rfl hDn.out.1 Tryd.underlying30 rfl (show (Tryd.prog.info? 30).map (·.size) = some 2 by kernel_rfl)) rfl ⟨_, _, rfl, hDn.out.2⟩
      · rw [if_neg k0] at h
        replace k0 : (c == 0) = false := beq_eq_false_iff_ne.mpr k0
        by_cases k1 : c = 1
        · rw [if_pos k1] at h
          replace k1 : (c == 1) = true := beq_iff_eq.mpr k1
          simp only [Option.some.injEq, Prod.mk.injEq] at h
          obtain ⟨hr1, hr2, hr3⟩ := h
          subst hr1 hr2 hr3
          have HF0 := za.mk (FG.alloc (BG.fin HP.out) (.cells #[.int .i64 0, .int .i64 0, .int .i64 0] 3))
          have hl3 : Kd.R (Kd.int .i64) 3 (wp.alloc (.cells #[.int .i64 0, .int .i64 0, .int .i64 0] 3)) 0 (fun _ => True) (.slice (some ⟨wp.heap.size, 0, none⟩) 3 3) [0, 0, 0] := xI (xs := [(0 : Int), 0, 0]) (cs := [.int .i64 0, .int .i64 0, .int .i64 0]) (heap_alloc_new _ _) (Nat.zero_le _) trivial (by simp [maxLen]) ((((yt.none _ _).snoc (p := (0 : Int)) (c := [.int .i64 0]) rfl rfl).snoc (p := (0 : Int)) (c := [.int .i64 0]) rfl rfl).snoc (p := (0 : Int)) (c := [.int .i64 0]) rfl rfl)
          have hl3 := za.mk (Kd.zU hl3).2.2
          have hcp0 := BG.cell0 HP.out
          clear HP
          go_wp2_with (at_builtin; refine Kd.R_append_rows (Rr := Kd.K (Kd.int .i64) (wp.alloc (.cells #[.int .i64 0, .int .i64 0, .int .i64 0] 3))) (w0 := (wp.alloc (.cells #[.int .i64 0, .int .i64 0, .int .i64 0] 3))) (Kd.int .i64) V.heap.size rfl _ _ 22 3 (.int .i64 0) 8 rfl Tryd.underlying22 (by kernel_rfl) rfl (by decide) (by decide) (.slice (some ⟨C, 0, none⟩) l0.length ca) l0 [0, 0, 0] (some ⟨wp.heap.size, 0, none⟩) 3 3 (fun _ => True) (fun _ => False) rfl rfl HF0.out.r0 hl3.out (fun _ _ h => h) (fun _ hk => hk.elim) (fun _ _ => trivial) (Below.refl _ _) (z7 HF0.out.K) (by have := hok.out.1; omega) ?_)
          intro va wa hra hba hga hata
          obtain ⟨Ac, cc2, hva⟩ := Kd.yn hra
          subst hva
          have hcA : wa.cell? ⟨D, 0, none⟩ = some (.slice (some ⟨C, 0, none⟩) l0.length ca) := (zf (FG.grow0 HF0.out hga) 0).trans rfl
          have hfA : wa.frozen? ⟨D, 0, none⟩ = false := zg (FG.grow0 HF0.out hga) 0
          have HF := za.mk (FG.push0 HF0.out hra hba hga (hata.imp id (fun ⟨b, h1, h2⟩ => ⟨b, h1, by simpa using h2⟩)))
          have e3 : (l0 ++ [0, 0, 0] : List Int).length = l0.length + 3 := by simp
          rw [e3] at HF
          clear e3
          clear hra hba hga hata HF0 hl3 hcp0
          have hbR : (wa.setCell ⟨D, 0, none⟩ (.slice Ac (l0.length + 3) cc2)).heap[w.heap.size + 1]? = some (.cells #[.slice none 0 0, .slice none 0 0] 30 (0, 0)) := HF.out.K.blk hbr.out (by have := ze.lt HI.out; omega) (by simp)
          have hc0 := HF.out.cell0
          have hc1 := HF.out.cell1
          have hbS := yT hbR 0 (.slice Ac (l0.length + 3) cc2)
          have hd0 : (wa.setCell ⟨D, 0, none⟩ (.slice Ac (l0.length + 3) cc2)).cell? ⟨w.heap.size + 1, 0, none⟩ = some (.slice none 0 0) := (zf hbR 0).trans rfl
          have hf0 : (wa.setCell ⟨D, 0, none⟩ (.slice Ac (l0.length + 3) cc2)).frozen? ⟨w.heap.size + 1, 0, none⟩ = false := zg hbR 0
          have hd1 : ((wa.setCell ⟨D, 0, none⟩ (.slice Ac (l0.length + 3) cc2)).setCell ⟨w.heap.size + 1, 0, none⟩ (.slice Ac (l0.length + 3) cc2)).cell? ⟨w.heap.size + 1, 1, none⟩ = some (.slice none 0 0) := (zf hbS 1).trans rfl
          have hf1 : ((wa.setCell ⟨D, 0, none⟩ (.slice Ac (l0.length + 3) cc2)).setCell ⟨w.heap.size + 1, 0, none⟩ (.slice Ac (l0.length + 3) cc2)).frozen? ⟨w.heap.size + 1, 1, none⟩ = false := zg hbS 1
          have hDn := za.mk (bdone HF.out (we := w) (R := w.heap.size + 1) (by have := hVs.out; omega) hbr.out (zk.of_below hbV.out g none) (Nat.le_succ _) (by have := ze.lt HI.out; omega) (by have := HB.out.size; omega))
          clear hbR hbS
          go_wp2_with (fail)
          exact bodyPost_ret (results_cell_row rfl _ _ (w.heap.size + 1) 30 _ (0, 0) _ rfl hDn.out.1 Tryd.underlying30 rfl (show (Tryd.prog.info? 30).map (·.size) = some 2 by kernel_rfl)) rfl ⟨_, _, rfl, hDn.out.2⟩
        · rw [if_neg k1] at h
          replace k1 : (c == 1) = false := beq_eq_false_iff_ne.mpr k1
          by_cases k2 : c = 2
          · rw [if_pos k2] at h
            replace k2 : (c == 2) = true := beq_iff_eq.mpr k2
            replace h := Option.bind_eq_some_iff.mp h
            obtain ⟨⟨d, q2⟩, P50, h⟩ := h
            have P50 := za.mk (show zi.f k s0_0 q 7 = some (d, q2) from P50)
            rw [show app0 l1 ⟨wrap64 (d - 1), [], [], 0⟩ = l1.set 0 (x0 ++ [⟨wrap64 (d - 1), [], [], 0⟩]) from by rw [hx0e.out]; rfl] at h
            simp only [Option.some.injEq, Prod.mk.injEq] at h
            obtain ⟨hr1, hr2, hr3⟩ := h
            subst hr1 hr2 hr3
            go_upto_region 16 with (fail)
            refine xi (n := 14) (S := fun w' => w'.cell? ⟨D, 1, none⟩ = some (.slice (some ⟨B, 0, none⟩) l1.length cB) ∧ w'.cell? ⟨B, 0, none⟩ = some (.slice Au x0.length cu)) (ds := [13]) #[false, false, false, false, false, false, false, false, false, false, false, false, false, false] (by kernel_rfl) rfl rfl ⟨(BG.cell1 (BG.drew HP.out)), (zA (yh (Below.refl _ _)) hB0)⟩ (fun hHeld => ?_)
            refine zF (i := 0) (N := some 67) (v := ?_) (a' := ?_) #[true, false, false, false, false, false, false, false, false, false, false, false, false, false] rfl rfl (by kernel_rfl) (fun _ _ _ h => h) (Or.inl ⟨by rfl, ?_⟩) ?_ ?_
            rotate_left
            · intro w'
              go_simp
              with_reducible rfl
            rotate_left
            · simp only [Act.put, List.setIfInBounds_toArray, List.set_cons_zero, List.set_cons_succ, zn, zo]
              rfl
            refine zF (i := 2) (N := some 69) (v := ?_) (a' := ?_) #[true, false, true, false, false, false, false, false, false, false, false, false, false, false] rfl rfl (by kernel_rfl) (fun _ _ _ h => h) (Or.inl ⟨by rfl, ?_⟩) ?_ ?_
            rotate_left
            · intro w'
              go_simp
              with_reducible rfl
            rotate_left
            · simp only [Act.put, List.setIfInBounds_toArray, List.set_cons_zero, List.set_cons_succ, zn, zo]
              rfl
            refine zF (i := 6) (N := some 73) (v := ?_) (a' := ?_) #[true, false, true, false, false, false, true, false, false, false, false, false, false, false] rfl rfl (by kernel_rfl) (fun _ _ _ h => h) (Or.inl ⟨by rfl, ?_⟩) ?_ ?_
            rotate_left
            · intro w'
              go_simp
              with_reducible rfl
            rotate_left
            · simp only [Act.put, List.setIfInBounds_toArray, List.set_cons_zero, List.set_cons_succ, zn, zo]
              rfl
            refine yK (i := 1) (N := some 68) (v := ?_) (a' := ?_) #[true, true, true, false, false, false, true, false, false, false, false, false, false, false] rfl rfl (by kernel_rfl) (fun _ _ _ h => h) (Or.inl ⟨by rfl, ?_⟩) hHeld ?_ ?_
            rotate_left
            · rintro w' ⟨s0, s1⟩
              go_simp
              with_reducible rfl
            rotate_left
            · simp only [Act.put, List.setIfInBounds_toArray, List.set_cons_zero, List.set_cons_succ, zn, zo]
              rfl
            refine yK (i := 3) (N := some 70) (v := ?_) (a' := ?_) #[true, true, true, true, false, false, true, false, false, false, false, false, false, false] rfl rfl (by kernel_rfl) (fun _ _ _ h => h) (Or.inl ⟨by rfl, ?_⟩) hHeld ?_ ?_
            rotate_left
            · rintro w' ⟨s0, s1⟩
              go_simp
              with_reducible rfl
            rotate_left
            · simp only [Act.put, List.setIfInBounds_toArray, List.set_cons_zero, List.set_cons_succ, zn, zo]
              rfl
            refine zF (i := 4) (N := some 71) (v := ?_) (a' := ?_) #[true, true, true, true, true, false, true, false, false, false, false, false, false, false] rfl rfl (by kernel_rfl) (fun _ _ _ h => h) (Or.inl ⟨by rfl, ?_⟩) ?_ ?_
            rotate_left
            · intro w'
              go_simp
              with_reducible rfl
            rotate_left
            · simp only [Act.put, List.setIfInBounds_toArray, List.set_cons_zero, List.set_cons_succ, zn, zo]
              rfl
            refine yK (i := 5) (N := some 72) (v := ?_) (a' := ?_) #[true, true, true, true, true, true, true, false, false, false, false, false, false, false] rfl rfl (by kernel_rfl) (fun _ _ _ h => h) (Or.inl ⟨by rfl, ?_⟩) hHeld ?_ ?_
            rotate_left
            · rintro w' ⟨s0, s1⟩
              go_simp
              with_reducible rfl
            rotate_left
            · simp only [Act.put, List.setIfInBounds_toArray, List.set_cons_zero, List.set_cons_succ, zn, zo]
              rfl
            refine yM (i := 7) (N := some 74) #[true, true, true, true, true, true, true, true, false, false, false, false, false, false] rfl rfl (by kernel_rfl) (by decide) (fun K hK => ?_)
            refine y7 Tryd.func56 (by kernel_rfl) rfl #[.pointer (some ⟨g, 0, none⟩), .int .i64 7] (by rfl) rfl rfl (by simp only [List.map_toArray, List.map_cons, List.map_nil]; rfl) ?_
            with_reducible refine (zi.calls k g s0_0 q 7 d q2 w0 _ (BG.I (BG.drew HP.out)) (BG.B (BG.drew HP.out)) P50.out).mono ?_
            rintro e w50 ⟨rfl, hi0, hb0, hk0⟩
            refine ⟨_, rfl, ?_⟩
            have H50 := za.mk (BG.keep (BG.drew HP.out) hi0 hb0 hk0)
            have hB50 := cell_k hk0 (zA (yh (Below.refl _ _)) hB0) (BG.gB (BG.drew HP.out))
            refine hK.out _ _ ⟨(BG.cell1 H50.out), hB50⟩ (fun hHeld => ?_)
            clear hK K
            refine zQ (a' := ?_) ?_ ?_
            rotate_left
            · show Act.put _ (some 74) _ = _
              simp only [Act.put, List.setIfInBounds_toArray, List.set_cons_zero, List.set_cons_succ, zn, zo]
              rfl
            refine zF (i := 8) (N := some 75) (v := ?_) (a' := ?_) #[true, true, true, true, true, true, true, true, true, false, false, false, false, false] rfl rfl (by kernel_rfl) (fun _ _ _ h => h) (Or.inl ⟨by rfl, ?_⟩) ?_ ?_
            rotate_left
            · intro w'
              go_simp
              with_reducible rfl
            rotate_left
            · simp only [Act.put, List.setIfInBounds_toArray, List.set_cons_zero, List.set_cons_succ, zn, zo]
              rfl
            refine zF (i := 9) (N := some 76) (v := ?_) (a' := ?_) #[true, true, true, true, true, true, true, true, true, true, false, false, false, false] rfl rfl (by kernel_rfl) (fun _ _ _ h => h) (Or.inl ⟨by rfl, ?_⟩) ?_ ?_
            rotate_left
            · intro w'
              go_simp
              with_reducible rfl
            rotate_left
            · simp only [Act.put, List.setIfInBounds_toArray, List.set_cons_zero, List.set_cons_succ, zn, zo]
              rfl
            refine yM (i := 10) (N := some 77) #[true, true, true, true, true, true, true, true, true, true, true, false, false, false] rfl rfl (by kernel_rfl) (by decide) (fun K hK => ?_)
            refine yI (w1 := ?_) (v := ?_) (by rfl) rfl ?_ ?_
            rotate_left 2
            · go_simp
              constructor
              · rfl
              · rfl
            refine hK.out _ _ ⟨(BG.cell1 (BG.alloc H50.out _)), (zA (zc (Below.refl _ _) _) hB50)⟩ (fun hHeld => ?_)
            clear hK K
            refine zQ (a' := ?_) ?_ ?_
            rotate_left
            · show Act.put _ (some 77) _ = _
              simp only [Act.put, List.setIfInBounds_toArray, List.set_cons_zero, List.set_cons_succ, zn, zo]
              rfl
            refine yM (i := 11) (N := some 78) #[true, true, true, true, true, true, true, true, true, true, true, true, false, false] rfl rfl (by kernel_rfl) (by decide) (fun K hK => ?_)
            obtain ⟨oki, hoki, huR, hH, hDu, hBu, hfu⟩ := BG.lendU H50.out hlN hB50
            rw [← hx0e.out] at huR
            have hM : k52.M w50 base (fun k => some k ≠ (Value.slice (some ⟨C, 0, none⟩) l0.length ca).ownBlock) (⟨wrap64 (d - 1), [], [], 0⟩ : S52) [.int .i64 (wrap64 (d - 1)), .slice none 0 0, .slice none 0 0, .int .i64 0] := xC _ _ _ (⟨wrap64 (d - 1), [], [], 0⟩ : S52) (Kd.xG _ _ _ _ _) (Kd.xG _ _ _ _ _)
            have hv0lt := Kd.R_lt (BG.r0 H50.out)
            refine Kd.yW (w0 := w50) (kz (k52.M w50 base (fun k => some k ≠ (Value.slice (some ⟨C, 0, none⟩) l0.length ca).ownBlock))) V.heap.size (by rfl) (.tmp 72) (.tmp 77) 48 52 (.agg #[.int .i64 0, .slice none 0 0, .slice none 0 0, .int .i64 0]) 64 (by rfl) Tryd.underlying48 (by kernel_rfl) (by rfl) (show (0 : Nat) < 4 by decide) (by decide) (.slice Au x0.length cu) x0 (⟨wrap64 (d - 1), [], [], 0⟩ : S52) [.int .i64 (wrap64 (d - 1)), .slice none 0 0, .slice none 0 0, .int .i64 0] (fun k => oki k ∨ some k ≠ (Value.slice (some ⟨C, 0, none⟩) l0.length ca).ownBlock ∧ w50.heap.size ≤ k) (fun _ => False) (by rfl) (by first | rfl | (go_simp; done) | (simp; done)) (kz_mk hM hM) (fun _ hk => hk.elim) (fun k hk => .inr ⟨fun e => by have h1 := hv0lt k e.symm; omega, hk⟩) (Kd.zZ huR (fun _ hk => .inl hk)) (Below.refl _ _) (z7 (BG.K H50.out)) (by have h1 := hx0.out; omega) ?_
            intro va wa hra hba hga hata
            obtain ⟨Ac, cc2, hva⟩ := Kd.yn hra
            subst hva
            have HA := za.mk (BG.app0 H50.out hlN hoki huR hH hra hba hga)
            have hcB : wa.cell? ⟨B, 0, none⟩ = some (.slice Au x0.length cu) := cell_g hga hB50 hBu
            have hcD : wa.cell? ⟨D, 1, none⟩ = some (.slice (some ⟨B, 0, none⟩) l1.length cB) := cell_g hga (BG.cell1 H50.out) hDu
            have hfB := hfu _ hga
            refine hK.out _ _ ⟨hcD, hcB⟩ (fun hHeld => ?_)
            clear hK K
            refine zQ (a' := ?_) ?_ ?_
            rotate_left
            · show Act.put _ (some 78) _ = _
              simp only [Act.put, List.setIfInBounds_toArray, List.set_cons_zero, List.set_cons_succ, zn, zo]
              rfl
            refine zF (i := 12) (N := some 79) (v := ?_) (a' := ?_) #[true, true, true, true, true, true, true, true, true, true, true, true, true, false] rfl rfl (by kernel_rfl) (fun _ _ _ h => h) (Or.inl ⟨by rfl, ?_⟩) ?_ ?_
            rotate_left
            · intro w'
              go_simp
              with_reducible rfl
            rotate_left
            · simp only [Act.put, List.setIfInBounds_toArray, List.set_cons_zero, List.set_cons_succ, zn, zo]
              rfl
            refine last_ (i := 13) (N := none) #[true, true, true, true, true, true, true, true, true, true, true, true, true, true] rfl rfl (by kernel_rfl) (by decide) (fun K hK => ?_)
            refine skip_ (w1 := ?_) (by rfl) rfl ?_ ?_
            rotate_left
            · go_simp
              rfl
            refine hK.out _ _ ?_
            clear hK K
            refine xA (by kernel_rfl) ?_
            have HF := za.mk (FG.done (BG.fin HA.out))
            simp only [List.length_append, List.length_cons, List.length_nil, Nat.zero_add] at HF
            clear hcB hcD hfB HP HA hra hba hga hata
            generalize hwE : wa.setCell ⟨B, 0, none⟩ (.slice Ac (x0.length + 1) cc2) = wE at HF ⊢
            clear hwE
            have hbR : wE.heap[w.heap.size + 1]? = some (.cells #[.slice none 0 0, .slice none 0 0] 30 (0, 0)) := HF.out.K.blk hbr.out (by have := ze.lt HI.out; omega) (by simp)
            have hc0 := HF.out.cell0
            have hc1 := HF.out.cell1
            have hbS := yT hbR 0 (.slice (some ⟨C, 0, none⟩) l0.length ca)
            have hd0 : wE.cell? ⟨w.heap.size + 1, 0, none⟩ = some (.slice none 0 0) := (zf hbR 0).trans rfl
            have hf0 : wE.frozen? ⟨w.heap.size + 1, 0, none⟩ = false := zg hbR 0
            have hd1 : (wE.setCell ⟨w.heap.size + 1, 0, none⟩ (.slice (some ⟨C, 0, none⟩) l0.length ca)).cell? ⟨w.heap.size + 1, 1, none⟩ = some (.slice none 0 0) := (zf hbS 1).trans rfl
            have hf1 : (wE.setCell ⟨w.heap.size + 1, 0, none⟩ (.slice (some ⟨C, 0, none⟩) l0.length ca)).frozen? ⟨w.heap.size + 1, 1, none⟩ = false := zg hbS 1
            have hDn := za.mk (bdone HF.out (we := w) (R := w.heap.size + 1) (by have := hVs.out; omega) hbr.out (zk.of_below hbV.out g none) (Nat.le_succ _) (by have := ze.lt HI.out; omega) (by have := HB.out.size; omega))
            clear hbR hbS
            go_wp2_with (fail)
            exact bodyPost_ret (results_cell_row rfl _ _ (w.heap.size + 1) 30 _ (0, 0) _ rfl hDn.out.1 Tryd.underlying30 rfl (show (Tryd.prog.info? 30).map (·.size) = some 2 by kernel_rfl)) rfl ⟨_, _, rfl, hDn.out.2⟩
          · rw [if_neg k2] at h
            replace k2 : (c == 2) = false := beq_eq_false_iff_ne.mpr k2
            by_cases k3 : c = 3
            · rw [if_pos k3] at h
              replace k3 : (c == 3) = true := beq_iff_eq.mpr k3
              replace h := Option.bind_eq_some_iff.mp h
              obtain ⟨⟨d, q2⟩, P50, h⟩ := h
              have P50 := za.mk (show zi.f k s0_0 q 6 = some (d, q2) from P50)
              rw [show app0 l1 ⟨2, [], [wrap64 (d - 1)], 0⟩ = l1.set 0 (x0 ++ [⟨2, [], [wrap64 (d - 1)], 0⟩]) from by rw [hx0e.out]; rfl] at h
              simp only [Option.some.injEq, Prod.mk.injEq] at h
              obtain ⟨hr1, hr2, hr3⟩ := h
              subst hr1 hr2 hr3
              go_upto_region 18 with (fail)
              refine xi (n := 15) (S := fun w' => w'.cell? ⟨D, 1, none⟩ = some (.slice (some ⟨B, 0, none⟩) l1.length cB) ∧ w'.cell? ⟨B, 0, none⟩ = some (.slice Au x0.length cu)) (ds := [14]) #[false, false, false, false, false, false, false, false, false, false, false, false, false, false, false] (by kernel_rfl) rfl rfl ⟨(BG.cell1 (BG.drew HP.out)), (zA (yh (Below.refl _ _)) hB0)⟩ (fun hHeld => ?_)
              refine zF (i := 0) (N := some 82) (v := ?_) (a' := ?_) #[true, false, false, false, false, false, false, false, false, false, false, false, false, false, false] rfl rfl (by kernel_rfl) (fun _ _ _ h => h) (Or.inl ⟨by rfl, ?_⟩) ?_ ?_
              rotate_left
              · intro w'
                go_simp
                with_reducible rfl
              rotate_left
              · simp only [Act.put, List.setIfInBounds_toArray, List.set_cons_zero, List.set_cons_succ, zn, zo]
                rfl
              refine zF (i := 2) (N := some 84) (v := ?_) (a' := ?_) #[true, false, true, false, false, false, false, false, false, false, false, false, false, false, false] rfl rfl (by kernel_rfl) (fun _ _ _ h => h) (Or.inl ⟨by rfl, ?_⟩) ?_ ?_
              rotate_left
              · intro w'
                go_simp
                with_reducible rfl
              rotate_left
              · simp only [Act.put, List.setIfInBounds_toArray, List.set_cons_zero, List.set_cons_succ, zn, zo]
                rfl
              refine zF (i := 6) (N := some 88) (v := ?_) (a' := ?_) #[true, false, true, false, false, false, true, false, false, false, false, false, false, false, false] rfl rfl (by kernel_rfl) (fun _ _ _ h => h) (Or.inl ⟨by rfl, ?_⟩) ?_ ?_
              rotate_left
              · intro w'
                go_simp
                with_reducible rfl
              rotate_left
              · simp only [Act.put, List.setIfInBounds_toArray, List.set_cons_zero, List.set_cons_succ, zn, zo]
                rfl
              refine yK (i := 1) (N := some 83) (v := ?_) (a' := ?_) #[true, true, true, false, false, false, true, false, false, false, false, false, false, false, false] rfl rfl (by kernel_rfl) (fun _ _ _ h => h) (Or.inl ⟨by rfl, ?_⟩) hHeld ?_ ?_
              rotate_left
              · rintro w' ⟨s0, s1⟩
                go_simp
                with_reducible rfl
              rotate_left
              · simp only [Act.put, List.setIfInBounds_toArray, List.set_cons_zero, List.set_cons_succ, zn, zo]
                rfl
              refine yK (i := 3) (N := some 85) (v := ?_) (a' := ?_) #[true, true, true, true, false, false, true, false, false, false, false, false, false, false, false] rfl rfl (by kernel_rfl) (fun _ _ _ h => h) (Or.inl ⟨by rfl, ?_⟩) hHeld ?_ ?_
              rotate_left
              · rintro w' ⟨s0, s1⟩
                go_simp
                with_reducible rfl
              rotate_left
              · simp only [Act.put, List.setIfInBounds_toArray, List.set_cons_zero, List.set_cons_succ, zn, zo]
                rfl
              refine zF (i := 4) (N := some 86) (v := ?_) (a' := ?_) #[true, true, true, true, true, false, true, false, false, false, false, false, false, false, false] rfl rfl (by kernel_rfl) (fun _ _ _ h => h) (Or.inl ⟨by rfl, ?_⟩) ?_ ?_
              rotate_left
              · intro w'
                go_simp
                with_reducible rfl
              rotate_left
              · simp only [Act.put, List.setIfInBounds_toArray, List.set_cons_zero, List.set_cons_succ, zn, zo]
                rfl
              refine yK (i := 5) (N := some 87) (v := ?_) (a' := ?_) #[true, true, true, true, true, true, true, false, false, false, false, false, false, false, false] rfl rfl (by kernel_rfl) (fun _ _ _ h => h) (Or.inl ⟨by rfl, ?_⟩) hHeld ?_ ?_
              rotate_left
              · rintro w' ⟨s0, s1⟩
                go_simp
                with_reducible rfl
              rotate_left
              · simp only [Act.put, List.setIfInBounds_toArray, List.set_cons_zero, List.set_cons_succ, zn, zo]
                rfl
              refine yM (i := 7) (N := some 89) #[true, true, true, true, true, true, true, true, false, false, false, false, false, false, false] rfl rfl (by kernel_rfl) (by decide) (fun K hK => ?_)
              refine y7 Tryd.func56 (by kernel_rfl) rfl #[.pointer (some ⟨g, 0, none⟩), .int .i64 6] (by rfl) rfl rfl (by simp only [List.map_toArray, List.map_cons, List.map_nil]; rfl) ?_
              with_reducible refine (zi.calls k g s0_0 q 6 d q2 w0 _ (BG.I (BG.drew HP.out)) (BG.B (BG.drew HP.out)) P50.out).mono ?_
              rintro e w50 ⟨rfl, hi0, hb0, hk0⟩
              refine ⟨_, rfl, ?_⟩
              have H50 := za.mk (BG.keep (BG.drew HP.out) hi0 hb0 hk0)
              have hB50 := cell_k hk0 (zA (yh (Below.refl _ _)) hB0) (BG.gB (BG.drew HP.out))
              refine hK.out _ _ ⟨(BG.cell1 H50.out), hB50⟩ (fun hHeld => ?_)
              clear hK K
              refine zQ (a' := ?_) ?_ ?_
              rotate_left
              · show Act.put _ (some 89) _ = _
                simp only [Act.put, List.setIfInBounds_toArray, List.set_cons_zero, List.set_cons_succ, zn, zo]
                rfl
              refine zF (i := 8) (N := some 90) (v := ?_) (a' := ?_) #[true, true, true, true, true, true, true, true, true, false, false, false, false, false, false] rfl rfl (by kernel_rfl) (fun _ _ _ h => h) (Or.inl ⟨by rfl, ?_⟩) ?_ ?_
              rotate_left
              · intro w'
                go_simp
                with_reducible rfl
              rotate_left
              · simp only [Act.put, List.setIfInBounds_toArray, List.set_cons_zero, List.set_cons_succ, zn, zo]
                rfl
              refine yM (i := 9) (N := some 91) #[true, true, true, true, true, true, true, true, true, true, false, false, false, false, false] rfl rfl (by kernel_rfl) (by decide) (fun K hK => ?_)
              refine yI (w1 := ?_) (v := ?_) (by rfl) rfl ?_ ?_
              rotate_left 2
              · go_simp
                constructor
                · rfl
                · rfl
              refine hK.out _ _ ⟨(BG.cell1 (BG.alloc H50.out (.cells #[.int .i64 (wrap64 (d - 1))] 3))), (zA (zc (Below.refl _ _) _) hB50)⟩ (fun hHeld => ?_)
              clear hK K
              refine zQ (a' := ?_) ?_ ?_
              rotate_left
              · show Act.put _ (some 91) _ = _
                simp only [Act.put, List.setIfInBounds_toArray, List.set_cons_zero, List.set_cons_succ, zn, zo]
                rfl
              refine zF (i := 10) (N := some 92) (v := ?_) (a' := ?_) #[true, true, true, true, true, true, true, true, true, true, true, false, false, false, false] rfl rfl (by kernel_rfl) (fun _ _ _ h => h) (Or.inl ⟨by rfl, ?_⟩) ?_ ?_
              rotate_left
              · intro w'
                go_simp
                with_reducible rfl
              rotate_left
              · simp only [Act.put, List.setIfInBounds_toArray, List.set_cons_zero, List.set_cons_succ, zn, zo]
                rfl
              refine yM (i := 11) (N := some 93) #[true, true, true, true, true, true, true, true, true, true, true, true, false, false, false] rfl rfl (by kernel_rfl) (by decide) (fun K hK => ?_)
              refine yI (w1 := ?_) (v := ?_) (by rfl) rfl ?_ ?_
              rotate_left 2
              · go_simp
                constructor
                · rfl
                · rfl
              refine hK.out _ _ ⟨(BG.cell1 (BG.alloc (BG.alloc H50.out (.cells #[.int .i64 (wrap64 (d - 1))] 3)) _)), (zA (zc (Below.refl _ _) _) (zA (zc (Below.refl _ _) _) hB50))⟩ (fun hHeld => ?_)
              clear hK K
              refine zQ (a' := ?_) ?_ ?_
              rotate_left
              · show Act.put _ (some 93) _ = _
                simp only [Act.put, List.setIfInBounds_toArray, List.set_cons_zero, List.set_cons_succ, zn, zo]
                rfl
              refine yM (i := 12) (N := some 94) #[true, true, true, true, true, true, true, true, true, true, true, true, true, false, false] rfl rfl (by kernel_rfl) (by decide) (fun K hK => ?_)
              obtain ⟨oki, hoki, huR, hH, hDu, hBu, hfu⟩ := BG.lendU (BG.alloc H50.out (.cells #[.int .i64 (wrap64 (d - 1))] 3)) hlN (zA (zc (Below.refl _ _) _) hB50)
              rw [← hx0e.out] at huR
              have hM : k52.M (w50.alloc (.cells #[.int .i64 (wrap64 (d - 1))] 3)) base (fun k => some k ≠ (Value.slice (some ⟨C, 0, none⟩) l0.length ca).ownBlock) (⟨2, [], [wrap64 (d - 1)], 0⟩ : S52) [.int .i64 2, .slice none 0 0, .slice (some ⟨w50.heap.size, 0, none⟩) 1 1, .int .i64 0] := xC _ _ _ (⟨2, [], [wrap64 (d - 1)], 0⟩ : S52) (Kd.xG _ _ _ _ _) (xI (xs := [wrap64 (d - 1)]) (cs := [.int .i64 (wrap64 (d - 1))]) (heap_alloc_new _ _) (Nat.le_trans Hb2.out (z7 H50.out.K)) (fun e => by have h1 := Kd.R_lt H50.out.r0 _ e.symm; omega) (by simp [maxLen]) ((yt.none _ _).snoc (p := wrap64 (d - 1)) (c := [.int .i64 (wrap64 (d - 1))]) rfl rfl))
              have hv0lt := Kd.R_lt (BG.r0 (BG.alloc H50.out (.cells #[.int .i64 (wrap64 (d - 1))] 3)))
              refine Kd.yW (w0 := (w50.alloc (.cells #[.int .i64 (wrap64 (d - 1))] 3))) (kz (k52.M (w50.alloc (.cells #[.int .i64 (wrap64 (d - 1))] 3)) base (fun k => some k ≠ (Value.slice (some ⟨C, 0, none⟩) l0.length ca).ownBlock))) V.heap.size (by rfl) (.tmp 87) (.tmp 93) 48 52 (.agg #[.int .i64 0, .slice none 0 0, .slice none 0 0, .int .i64 0]) 64 (by rfl) Tryd.underlying48 (by kernel_rfl) (by rfl) (show (0 : Nat) < 4 by decide) (by decide) (.slice Au x0.length cu) x0 (⟨2, [], [wrap64 (d - 1)], 0⟩ : S52) [.int .i64 2, .slice none 0 0, .slice (some ⟨w50.heap.size, 0, none⟩) 1 1, .int .i64 0] (fun k => oki k ∨ some k ≠ (Value.slice (some ⟨C, 0, none⟩) l0.length ca).ownBlock ∧ (w50.alloc (.cells #[.int .i64 (wrap64 (d - 1))] 3)).heap.size ≤ k) (fun _ => False) (by rfl) (by first | rfl | (go_simp; done) | (simp; done)) (kz_mk hM hM) (fun _ hk => hk.elim) (fun k hk => .inr ⟨fun e => by have h1 := hv0lt k e.symm; omega, hk⟩) (Kd.zZ huR (fun _ hk => .inl hk)) (Below.refl _ _) (z7 (BG.K (BG.alloc H50.out (.cells #[.int .i64 (wrap64 (d - 1))] 3)))) (by have h1 := hx0.out; omega) ?_
              intro va wa hra hba hga hata
              obtain ⟨Ac, cc2, hva⟩ := Kd.yn hra
              subst hva
              have HA := za.mk (BG.app0 (BG.alloc H50.out (.cells #[.int .i64 (wrap64 (d - 1))] 3)) hlN hoki huR hH hra hba hga)
              have hcB : wa.cell? ⟨B, 0, none⟩ = some (.slice Au x0.length cu) := cell_g hga (zA (zc (Below.refl _ _) _) hB50) hBu
              have hcD : wa.cell? ⟨D, 1, none⟩ = some (.slice (some ⟨B, 0, none⟩) l1.length cB) := cell_g hga (BG.cell1 (BG.alloc H50.out (.cells #[.int .i64 (wrap64 (d - 1))] 3))) hDu
              have hfB := hfu _ hga
              refine hK.out _ _ ⟨hcD, hcB⟩ (fun hHeld => ?_)
              clear hK K
              refine zQ (a' := ?_) ?_ ?_
              rotate_left
              · show Act.put _ (some 94) _ = _
                simp only [Act.put, List.setIfInBounds_toArray, List.set_cons_zero, List.set_cons_succ, zn, zo]
                rfl
              refine zF (i := 13) (N := some 95) (v := ?_) (a' := ?_) #[true, true, true, true, true, true, true, true, true, true, true, true, true, true, false] rfl rfl (by kernel_rfl) (fun _ _ _ h => h) (Or.inl ⟨by rfl, ?_⟩) ?_ ?_
              rotate_left
              · intro w'
                go_simp
                with_reducible rfl
              rotate_left
              · simp only [Act.put, List.setIfInBounds_toArray, List.set_cons_zero, List.set_cons_succ, zn, zo]
                rfl
              refine last_ (i := 14) (N := none) #[true, true, true, true, true, true, true, true, true, true, true, true, true, true, true] rfl rfl (by kernel_rfl) (by decide) (fun K hK => ?_)
              refine skip_ (w1 := ?_) (by rfl) rfl ?_ ?_
              rotate_left
              · go_simp
                rfl
              refine hK.out _ _ ?_
              clear hK K
              refine xA (by kernel_rfl) ?_
              have HF := za.mk (FG.done (BG.fin HA.out))
              simp only [List.length_append, List.length_cons, List.length_nil, Nat.zero_add] at HF
              clear hcB hcD hfB HP HA hra hba hga hata
              generalize hwE : wa.setCell ⟨B, 0, none⟩ (.slice Ac (x0.length + 1) cc2) = wE at HF ⊢
              clear hwE
              have hbR : wE.heap[w.heap.size + 1]? = some (.cells #[.slice none 0 0, .slice none 0 0] 30 (0, 0)) := HF.out.K.blk hbr.out (by have := ze.lt HI.out; omega) (by simp)
              have hc0 := HF.out.cell0
              have hc1 := HF.out.cell1
              have hbS := yT hbR 0 (.slice (some ⟨C, 0, none⟩) l0.length ca)
              have hd0 : wE.cell? ⟨w.heap.size + 1, 0, none⟩ = some (.slice none 0 0) := (zf hbR 0).trans rfl
              have hf0 : wE.frozen? ⟨w.heap.size + 1, 0, none⟩ = false := zg hbR 0
              have hd1 : (wE.setCell ⟨w.heap.size + 1, 0, none⟩ (.slice (some ⟨C, 0, none⟩) l0.length ca)).cell? ⟨w.heap.size + 1, 1, none⟩ = some (.slice none 0 0) := (zf hbS 1).trans rfl
              have hf1 : (wE.setCell ⟨w.heap.size + 1, 0, none⟩ (.slice (some ⟨C, 0, none⟩) l0.length ca)).frozen? ⟨w.heap.size + 1, 1, none⟩ = false := zg hbS 1
              have hDn := za.mk (bdone HF.out (we := w) (R := w.heap.size + 1) (by have := hVs.out; omega) hbr.out (zk.of_below hbV.out g none) (Nat.le_succ _) (by have := ze.lt HI.out; omega) (by have := HB.out.size; omega))
              clear hbR hbS
              go_wp2_with (fail)
              exact bodyPost_ret (results_cell_row rfl _ _ (w.heap.size + 1) 30 _ (0, 0) _ rfl hDn.out.1 Tryd.underlying30 rfl (show (Tryd.prog.info? 30).map (·.size) = some 2 by kernel_rfl)) rfl ⟨_, _, rfl, hDn.out.2⟩
            · rw [if_neg k3] at h
              replace k3 : (c == 3) = false := beq_eq_false_iff_ne.mpr k3
              by_cases k4 : c = 4
              · rw [if_pos k4] at h
                replace k4 : (c == 4) = true := beq_iff_eq.mpr k4
                replace h := Option.bind_eq_some_iff.mp h
                obtain ⟨⟨da, q2⟩, P50, h⟩ := h
                replace h := Option.bind_eq_some_iff.mp h
                obtain ⟨⟨db, q3⟩, P51, h⟩ := h
                replace h := Option.bind_eq_some_iff.mp h
                obtain ⟨⟨dc, q4⟩, P52, h⟩ := h
                have P50 := za.mk (show zi.f k s0_0 q 7 = some (da, q2) from P50)
                have P51 := za.mk (show zi.f k s0_0 q2 5 = some (db, q3) from P51)
                have P52 := za.mk (show zi.f k s0_0 q3 5 = some (dc, q4) from P52)
                rw [show app0 l1 ⟨1, [⟨da, wrap64 (db - 1), wrap64 (dc - 1)⟩], [], 0⟩ = l1.set 0 (x0 ++ [⟨1, [⟨da, wrap64 (db - 1), wrap64 (dc - 1)⟩], [], 0⟩]) from by rw [hx0e.out]; rfl] at h
                simp only [Option.some.injEq, Prod.mk.injEq] at h
                obtain ⟨hr1, hr2, hr3⟩ := h
                subst hr1 hr2 hr3
                go_upto_region 20 with (fail)
                refine xi (n := 21) (S := fun w' => w'.cell? ⟨D, 1, none⟩ = some (.slice (some ⟨B, 0, none⟩) l1.length cB) ∧ w'.cell? ⟨B, 0, none⟩ = some (.slice Au x0.length cu)) (ds := [20]) #[false, false, false, false, false, false, false, false, false, false, false, false, false, false, false, false, false, false, false, false, false] (by kernel_rfl) rfl rfl ⟨(BG.cell1 (BG.drew HP.out)), (zA (yh (Below.refl _ _)) hB0)⟩ (fun hHeld => ?_)
                refine zF (i := 0) (N := some 98) (v := ?_) (a' := ?_) #[true, false, false, false, false, false, false, false, false, false, false, false, false, false, false, false, false, false, false, false, false] rfl rfl (by kernel_rfl) (fun _ _ _ h => h) (Or.inl ⟨by rfl, ?_⟩) ?_ ?_
                rotate_left
                · intro w'
                  go_simp
                  with_reducible rfl
                rotate_left
                · simp only [Act.put, List.setIfInBounds_toArray, List.set_cons_zero, List.set_cons_succ, zn, zo]
                  rfl
                refine zF (i := 2) (N := some 100) (v := ?_) (a' := ?_) #[true, false, true, false, false, false, false, false, false, false, false, false, false, false, false, false, false, false, false, false, false] rfl rfl (by kernel_rfl) (fun _ _ _ h => h) (Or.inl ⟨by rfl, ?_⟩) ?_ ?_
                rotate_left
                · intro w'
                  go_simp
                  with_reducible rfl
                rotate_left
                · simp only [Act.put, List.setIfInBounds_toArray, List.set_cons_zero, List.set_cons_succ, zn, zo]
                  rfl
                refine zF (i := 6) (N := some 104) (v := ?_) (a' := ?_) #[true, false, true, false, false, false, true, false, false, false, false, false, false, false, false, false, false, false, false, false, false] rfl rfl (by kernel_rfl) (fun _ _ _ h => h) (Or.inl ⟨by rfl, ?_⟩) ?_ ?_
                rotate_left
                · intro w'
                  go_simp
                  with_reducible rfl
                rotate_left
                · simp only [Act.put, List.setIfInBounds_toArray, List.set_cons_zero, List.set_cons_succ, zn, zo]
                  rfl
                refine zF (i := 8) (N := some 106) (v := ?_) (a' := ?_) #[true, false, true, false, false, false, true, false, true, false, false, false, false, false, false, false, false, false, false, false, false] rfl rfl (by kernel_rfl) (fun _ _ _ h => h) (Or.inl ⟨by rfl, ?_⟩) ?_ ?_
                rotate_left
                · intro w'
                  go_simp
                  with_reducible rfl
                rotate_left
                · simp only [Act.put, List.setIfInBounds_toArray, List.set_cons_zero, List.set_cons_succ, zn, zo]
                  rfl
                refine zF (i := 11) (N := some 109) (v := ?_) (a' := ?_) #[true, false, true, false, false, false, true, false, true, false, false, true, false, false, false, false, false, false, false, false, false] rfl rfl (by kernel_rfl) (fun _ _ _ h => h) (Or.inl ⟨by rfl, ?_⟩) ?_ ?_
                rotate_left
                · intro w'
                  go_simp
                  with_reducible rfl
                rotate_left
                · simp only [Act.put, List.setIfInBounds_toArray, List.set_cons_zero, List.set_cons_succ, zn, zo]
                  rfl
                refine yK (i := 1) (N := some 99) (v := ?_) (a' := ?_) #[true, true, true, false, false, false, true, false, true, false, false, true, false, false, false, false, false, false, false, false, false] rfl rfl (by kernel_rfl) (fun _ _ _ h => h) (Or.inl ⟨by rfl, ?_⟩) hHeld ?_ ?_
                rotate_left
                · rintro w' ⟨s0, s1⟩
                  go_simp
                  with_reducible rfl
                rotate_left
                · simp only [Act.put, List.setIfInBounds_toArray, List.set_cons_zero, List.set_cons_succ, zn, zo]
                  rfl
                refine yK (i := 3) (N := some 101) (v := ?_) (a' := ?_) #[true, true, true, true, false, false, true, false, true, false, false, true, false, false, false, false, false, false, false, false, false] rfl rfl (by kernel_rfl) (fun _ _ _ h => h) (Or.inl ⟨by rfl, ?_⟩) hHeld ?_ ?_
                rotate_left
                · rintro w' ⟨s0, s1⟩
                  go_simp
                  with_reducible rfl
                rotate_left
                · simp only [Act.put, List.setIfInBounds_toArray, List.set_cons_zero, List.set_cons_succ, zn, zo]
                  rfl
                refine zF (i := 4) (N := some 102) (v := ?_) (a' := ?_) #[true, true, true, true, true, false, true, false, true, false, false, true, false, false, false, false, false, false, false, false, false] rfl rfl (by kernel_rfl) (fun _ _ _ h => h) (Or.inl ⟨by rfl, ?_⟩) ?_ ?_
                rotate_left
                · intro w'
                  go_simp
                  with_reducible rfl
                rotate_left
                · simp only [Act.put, List.setIfInBounds_toArray, List.set_cons_zero, List.set_cons_succ, zn, zo]
                  rfl
                refine yK (i := 5) (N := some 103) (v := ?_) (a' := ?_) #[true, true, true, true, true, true, true, false, true, false, false, true, false, false, false, false, false, false, false, false, false] rfl rfl (by kernel_rfl) (fun _ _ _ h => h) (Or.inl ⟨by rfl, ?_⟩) hHeld ?_ ?_
                rotate_left
                · rintro w' ⟨s0, s1⟩
                  go_simp
                  with_reducible rfl
                rotate_left
                · simp only [Act.put, List.setIfInBounds_toArray, List.set_cons_zero, List.set_cons_succ, zn, zo]
                  rfl
                refine yM (i := 7) (N := some 105) #[true, true, true, true, true, true, true, true, true, false, false, true, false, false, false, false, false, false, false, false, false] rfl rfl (by kernel_rfl) (by decide) (fun K hK => ?_)
                refine y7 Tryd.func56 (by kernel_rfl) rfl #[.pointer (some ⟨g, 0, none⟩), .int .i64 7] (by rfl) rfl rfl (by simp only [List.map_toArray, List.map_cons, List.map_nil]; rfl) ?_
                with_reducible refine (zi.calls k g s0_0 q 7 da q2 w0 _ (BG.I (BG.drew HP.out)) (BG.B (BG.drew HP.out)) P50.out).mono ?_
                rintro e w50 ⟨rfl, hi0, hb0, hk0⟩
                refine ⟨_, rfl, ?_⟩
                have H50 := za.mk (BG.keep (BG.drew HP.out) hi0 hb0 hk0)
                have hB50 := cell_k hk0 (zA (yh (Below.refl _ _)) hB0) (BG.gB (BG.drew HP.out))
                refine hK.out _ _ ⟨(BG.cell1 H50.out), hB50⟩ (fun hHeld => ?_)
                clear hK K
                refine zQ (a' := ?_) ?_ ?_
                rotate_left
                · show Act.put _ (some 105) _ = _
                  simp only [Act.put, List.setIfInBounds_toArray, List.set_cons_zero, List.set_cons_succ, zn, zo]
                  rfl
                refine yM (i := 9) (N := some 107) #[true, true, true, true, true, true, true, true, true, true, false, true, false, false, false, false, false, false, false, false, false] rfl rfl (by kernel_rfl) (by decide) (fun K hK => ?_)
                refine y7 Tryd.func56 (by kernel_rfl) rfl #[.pointer (some ⟨g, 0, none⟩), .int .i64 5] (by rfl) rfl rfl (by simp only [List.map_toArray, List.map_cons, List.map_nil]; rfl) ?_
                with_reducible refine (zi.calls k g s0_0 q2 5 db q3 w0 _ (BG.I H50.out) (BG.B H50.out) P51.out).mono ?_
                rintro e w51 ⟨rfl, hi1, hb1, hk1⟩
                refine ⟨_, rfl, ?_⟩
                have H51 := za.mk (BG.keep H50.out hi1 hb1 hk1)
                have hB51 := cell_k hk1 hB50 (BG.gB H50.out)
                refine hK.out _ _ ⟨(BG.cell1 H51.out), hB51⟩ (fun hHeld => ?_)
                clear hK K
                refine zQ (a' := ?_) ?_ ?_
                rotate_left
                · show Act.put _ (some 107) _ = _
                  simp only [Act.put, List.setIfInBounds_toArray, List.set_cons_zero, List.set_cons_succ, zn, zo]
                  rfl
                refine zF (i := 10) (N := some 108) (v := ?_) (a' := ?_) #[true, true, true, true, true, true, true, true, true, true, true, true, false, false, false, false, false, false, false, false, false] rfl rfl (by kernel_rfl) (fun _ _ _ h => h) (Or.inl ⟨by rfl, ?_⟩) ?_ ?_
                rotate_left
                · intro w'
                  go_simp
                  with_reducible rfl
                rotate_left
                · simp only [Act.put, List.setIfInBounds_toArray, List.set_cons_zero, List.set_cons_succ, zn, zo]
                  rfl
                refine yM (i := 12) (N := some 110) #[true, true, true, true, true, true, true, true, true, true, true, true, true, false, false, false, false, false, false, false, false] rfl rfl (by kernel_rfl) (by decide) (fun K hK => ?_)
                refine y7 Tryd.func56 (by kernel_rfl) rfl #[.pointer (some ⟨g, 0, none⟩), .int .i64 5] (by rfl) rfl rfl (by simp only [List.map_toArray, List.map_cons, List.map_nil]; rfl) ?_
                with_reducible refine (zi.calls k g s0_0 q3 5 dc q4 w0 _ (BG.I H51.out) (BG.B H51.out) P52.out).mono ?_
                rintro e w52 ⟨rfl, hi2, hb2, hk2⟩
                refine ⟨_, rfl, ?_⟩
                have H52 := za.mk (BG.keep H51.out hi2 hb2 hk2)
                have hB52 := cell_k hk2 hB51 (BG.gB H51.out)
                refine hK.out _ _ ⟨(BG.cell1 H52.out), hB52⟩ (fun hHeld => ?_)
                clear hK K
                refine zQ (a' := ?_) ?_ ?_
                rotate_left
                · show Act.put _ (some 110) _ = _
                  simp only [Act.put, List.setIfInBounds_toArray, List.set_cons_zero, List.set_cons_succ, zn, zo]
                  rfl
                refine zF (i := 13) (N := some 111) (v := ?_) (a' := ?_) #[true, true, true, true, true, true, true, true, true, true, true, true, true, true, false, false, false, false, false, false, false] rfl rfl (by kernel_rfl) (fun _ _ _ h => h) (Or.inl ⟨by rfl, ?_⟩) ?_ ?_
                rotate_left
                · intro w'
                  go_simp
                  with_reducible rfl
                rotate_left
                · simp only [Act.put, List.setIfInBounds_toArray, List.set_cons_zero, List.set_cons_succ, zn, zo]
                  rfl
                refine zF (i := 14) (N := some 112) (v := ?_) (a' := ?_) #[true, true, true, true, true, true, true, true, true, true, true, true, true, true, true, false, false, false, false, false, false] rfl rfl (by kernel_rfl) (fun _ _ _ h => h) (Or.inl ⟨by rfl, ?_⟩) ?_ ?_
                rotate_left
                · intro w'
                  go_simp
                  with_reducible rfl
                rotate_left
                · simp only [Act.put, List.setIfInBounds_toArray, List.set_cons_zero, List.set_cons_succ, zn, zo]
                  rfl
                refine yM (i := 15) (N := some 113) #[true, true, true, true, true, true, true, true, true, true, true, true, true, true, true, true, false, false, false, false, false] rfl rfl (by kernel_rfl) (by decide) (fun K hK => ?_)
                refine yI (w1 := ?_) (v := ?_) (by rfl) rfl ?_ ?_
                rotate_left 2
                · go_simp
                  constructor
                  · rfl
                  · rfl
                refine hK.out _ _ ⟨(BG.cell1 (BG.alloc H52.out (.cells #[.int .i64 da, .int .i64 (wrap64 (db - 1)), .int .i64 (wrap64 (dc - 1))] 82))), (zA (zc (Below.refl _ _) _) hB52)⟩ (fun hHeld => ?_)
                clear hK K
                refine zQ (a' := ?_) ?_ ?_
                rotate_left
                · show Act.put _ (some 113) _ = _
                  simp only [Act.put, List.setIfInBounds_toArray, List.set_cons_zero, List.set_cons_succ, zn, zo]
                  rfl
                refine zF (i := 16) (N := some 114) (v := ?_) (a' := ?_) #[true, true, true, true, true, true, true, true, true, true, true, true, true, true, true, true, true, false, false, false, false] rfl rfl (by kernel_rfl) (fun _ _ _ h => h) (Or.inl ⟨by rfl, ?_⟩) ?_ ?_
                rotate_left
                · intro w'
                  go_simp
                  with_reducible rfl
                rotate_left
                · simp only [Act.put, List.setIfInBounds_toArray, List.set_cons_zero, List.set_cons_succ, zn, zo]
                  rfl
                refine yM (i := 17) (N := some 115) #[true, true, true, true, true, true, true, true, true, true, true, true, true, true, true, true, true, true, false, false, false] rfl rfl (by kernel_rfl) (by decide) (fun K hK => ?_)
                refine yI (w1 := ?_) (v := ?_) (by rfl) rfl ?_ ?_
                rotate_left 2
                · go_simp
                  constructor
                  · rfl
                  · rfl
                refine hK.out _ _ ⟨(BG.cell1 (BG.alloc (BG.alloc H52.out (.cells #[.int .i64 da, .int .i64 (wrap64 (db - 1)), .int .i64 (wrap64 (dc - 1))] 82)) _)), (zA (zc (Below.refl _ _) _) (zA (zc (Below.refl _ _) _) hB52))⟩ (fun hHeld => ?_)
                clear hK K
                refine zQ (a' := ?_) ?_ ?_
                rotate_left
                · show Act.put _ (some 115) _ = _
                  simp only [Act.put, List.setIfInBounds_toArray, List.set_cons_zero, List.set_cons_succ, zn, zo]
                  rfl
                refine yM (i := 18) (N := some 116) #[true, true, true, true, true, true, true, true, true, true, true, true, true, true, true, true, true, true, true, false, false] rfl rfl (by kernel_rfl) (by decide) (fun K hK => ?_)
                obtain ⟨oki, hoki, huR, hH, hDu, hBu, hfu⟩ := BG.lendU (BG.alloc H52.out (.cells #[.int .i64 da, .int .i64 (wrap64 (db - 1)), .int .i64 (wrap64 (dc - 1))] 82)) hlN (zA (zc (Below.refl _ _) _) hB52)
                rw [← hx0e.out] at huR
                have hM : k52.M (w52.alloc (.cells #[.int .i64 da, .int .i64 (wrap64 (db - 1)), .int .i64 (wrap64 (dc - 1))] 82)) base (fun k => some k ≠ (Value.slice (some ⟨C, 0, none⟩) l0.length ca).ownBlock) (⟨1, [⟨da, wrap64 (db - 1), wrap64 (dc - 1)⟩], [], 0⟩ : S52) [.int .i64 1, .slice (some ⟨w52.heap.size, 0, none⟩) 1 1, .slice none 0 0, .int .i64 0] := xC _ _ _ (⟨1, [⟨da, wrap64 (db - 1), wrap64 (dc - 1)⟩], [], 0⟩ : S52) (xI (xs := ([⟨da, wrap64 (db - 1), wrap64 (dc - 1)⟩] : List S82)) (cs := [.int .i64 da, .int .i64 (wrap64 (db - 1)), .int .i64 (wrap64 (dc - 1))]) (heap_alloc_new _ _) (Nat.le_trans Hb2.out (z7 H52.out.K)) (fun e => by have h1 := Kd.R_lt H52.out.r0 _ e.symm; omega) (by simp [maxLen]) ((yt.none _ _).snoc (k82_mkM _ _ _ ⟨da, wrap64 (db - 1), wrap64 (dc - 1)⟩) rfl)) (Kd.xG _ _ _ _ _)
                have hv0lt := Kd.R_lt (BG.r0 (BG.alloc H52.out (.cells #[.int .i64 da, .int .i64 (wrap64 (db - 1)), .int .i64 (wrap64 (dc - 1))] 82)))
                refine Kd.yW (w0 := (w52.alloc (.cells #[.int .i64 da, .int .i64 (wrap64 (db - 1)), .int .i64 (wrap64 (dc - 1))] 82))) (kz (k52.M (w52.alloc (.cells #[.int .i64 da, .int .i64 (wrap64 (db - 1)), .int .i64 (wrap64 (dc - 1))] 82)) base (fun k => some k ≠ (Value.slice (some ⟨C, 0, none⟩) l0.length ca).ownBlock))) V.heap.size (by rfl) (.tmp 103) (.tmp 115) 48 52 (.agg #[.int .i64 0, .slice none 0 0, .slice none 0 0, .int .i64 0]) 64 (by rfl) Tryd.underlying48 (by kernel_rfl) (by rfl) (show (0 : Nat) < 4 by decide) (by decide) (.slice Au x0.length cu) x0 (⟨1, [⟨da, wrap64 (db - 1), wrap64 (dc - 1)⟩], [], 0⟩ : S52) [.int .i64 1, .slice (some ⟨w52.heap.size, 0, none⟩) 1 1, .slice none 0 0, .int .i64 0] (fun k => oki k ∨ some k ≠ (Value.slice (some ⟨C, 0, none⟩) l0.length ca).ownBlock ∧ (w52.alloc (.cells #[.int .i64 da, .int .i64 (wrap64 (db - 1)), .int .i64 (wrap64 (dc - 1))] 82)).heap.size ≤ k) (fun _ => False) (by rfl) (by first | rfl | (go_simp; done) | (simp; done)) (kz_mk hM hM) (fun _ hk => hk.elim) (fun k hk => .inr ⟨fun e => by have h1 := hv0lt k e.symm; omega, hk⟩) (Kd.zZ huR (fun _ hk => .inl hk)) (Below.refl _ _) (z7 (BG.K (BG.alloc H52.out (.cells #[.int .i64 da, .int .i64 (wrap64 (db - 1)), .int .i64 (wrap64 (dc - 1))] 82)))) (by have h1 := hx0.out; omega) ?_
                intro va wa hra hba hga hata
                obtain ⟨Ac, cc2, hva⟩ := Kd.yn hra
                subst hva
                have HA := za.mk (BG.app0 (BG.alloc H52.out (.cells #[.int .i64 da, .int .i64 (wrap64 (db - 1)), .int .i64 (wrap64 (dc - 1))] 82)) hlN hoki huR hH hra hba hga)
                have hcB : wa.cell? ⟨B, 0, none⟩ = some (.slice Au x0.length cu) := cell_g hga (zA (zc (Below.refl _ _) _) hB52) hBu
                have hcD : wa.cell? ⟨D, 1, none⟩ = some (.slice (some ⟨B, 0, none⟩) l1.length cB) := cell_g hga (BG.cell1 (BG.alloc H52.out (.cells #[.int .i64 da, .int .i64 (wrap64 (db - 1)), .int .i64 (wrap64 (dc - 1))] 82))) hDu
                have hfB := hfu _ hga
                refine hK.out _ _ ⟨hcD, hcB⟩ (fun hHeld => ?_)
                clear hK K
                refine zQ (a' := ?_) ?_ ?_
                rotate_left
                · show Act.put _ (some 116) _ = _
                  simp only [Act.put, List.setIfInBounds_toArray, List.set_cons_zero, List.set_cons_succ, zn, zo]
                  rfl
                refine zF (i := 19) (N := some 117) (v := ?_) (a' := ?_) #[true, true, true, true, true, true, true, true, true, true, true, true, true, true, true, true, true, true, true, true, false] rfl rfl (by kernel_rfl) (fun _ _ _ h => h) (Or.inl ⟨by rfl, ?_⟩) ?_ ?_
                rotate_left
                · intro w'
                  go_simp
                  with_reducible rfl
                rotate_left
                · simp only [Act.put, List.setIfInBounds_toArray, List.set_cons_zero, List.set_cons_succ, zn, zo]
                  rfl
                refine last_ (i := 20) (N := none) #[true, true, true, true, true, true, true, true, true, true, true, true, true, true, true, true, true, true, true, true, true] rfl rfl (by kernel_rfl) (by decide) (fun K hK => ?_)
                refine skip_ (w1 := ?_) (by rfl) rfl ?_ ?_
                rotate_left
                · go_simp
                  rfl
                refine hK.out _ _ ?_
                clear hK K
                refine xA (by kernel_rfl) ?_
                have HF := za.mk (FG.done (BG.fin HA.out))
                simp only [List.length_append, List.length_cons, List.length_nil, Nat.zero_add] at HF
                clear hcB hcD hfB HP HA hra hba hga hata
                generalize hwE : wa.setCell ⟨B, 0, none⟩ (.slice Ac (x0.length + 1) cc2) = wE at HF ⊢
                clear hwE
                have hbR : wE.heap[w.heap.size + 1]? = some (.cells #[.slice none 0 0, .slice none 0 0] 30 (0, 0)) := HF.out.K.blk hbr.out (by have := ze.lt HI.out; omega) (by simp)
                have hc0 := HF.out.cell0
                have hc1 := HF.out.cell1
                have hbS := yT hbR 0 (.slice (some ⟨C, 0, none⟩) l0.length ca)
                have hd0 : wE.cell? ⟨w.heap.size + 1, 0, none⟩ = some (.slice none 0 0) := (zf hbR 0).trans rfl
                have hf0 : wE.frozen? ⟨w.heap.size + 1, 0, none⟩ = false := zg hbR 0
                have hd1 : (wE.setCell ⟨w.heap.size + 1, 0, none⟩ (.slice (some ⟨C, 0, none⟩) l0.length ca)).cell? ⟨w.heap.size + 1, 1, none⟩ = some (.slice none 0 0) := (zf hbS 1).trans rfl
                have hf1 : (wE.setCell ⟨w.heap.size + 1, 0, none⟩ (.slice (some ⟨C, 0, none⟩) l0.length ca)).frozen? ⟨w.heap.size + 1, 1, none⟩ = false := zg hbS 1
                have hDn := za.mk (bdone HF.out (we := w) (R := w.heap.size + 1) (by have := hVs.out; omega) hbr.out (zk.of_below hbV.out g none) (Nat.le_succ _) (by have := ze.lt HI.out; omega) (by have := HB.out.size; omega))
                clear hbR hbS
                go_wp2_with (fail)
                exact bodyPost_ret (results_cell_row rfl _ _ (w.heap.size + 1) 30 _ (0, 0) _ rfl hDn.out.1 Tryd.underlying30 rfl (show (Tryd.prog.info? 30).map (·.size) = some 2 by kernel_rfl)) rfl ⟨_, _, rfl, hDn.out.2⟩
              · rw [if_neg k4] at h
                replace k4 : (c == 4) = false := beq_eq_false_iff_ne.mpr k4
                by_cases k5 : c = 5
                · rw [if_pos k5] at h
                  replace k5 : (c == 5) = true := beq_iff_eq.mpr k5
                  simp only [Option.some.injEq, Prod.mk.injEq] at h
                  obtain ⟨hr1, hr2, hr3⟩ := h
                  subst hr1 hr2 hr3
                  have HF0 := za.mk (FG.alloc (FG.alloc (FG.alloc (FG.alloc (BG.fin HP.out) (.cells #[] 52)) (.cells #[] 52)) (.cells #[] 52)) (.cells #[.slice (some ⟨wp.heap.size, 0, none⟩) 0 0, .slice (some ⟨wp.heap.size + 1, 0, none⟩) 0 0, .slice (some ⟨wp.heap.size + 1 + 1, 0, none⟩) 0 0] 48))
                  have hbp2 : base ≤ wp.heap.size := Nat.le_trans Hb2.out (z7 HP.out.K)
                  have hl3 := three_r1 wp base hbp2
                  obtain ⟨A3, c3, he3, _, hl3⟩ := xf.reads hl3.2
                  injection he3 with he3 _ he4
                  subst he3 he4
                  have hl3 := za.mk hl3
                  have hv1lt := Kd.S_lt (BG.r1 HP.out)
                  have hv1lt := za.mk hv1lt
                  have hv0lt := za.mk (Kd.R_lt (BG.r0 HP.out))
                  replace hbp2 := za.mk hbp2
                  have hcp0 := BG.cell1 HP.out
                  clear HP
                  go_wp2_with (at_builtin; refine Kd.R_append_rows (Rr := (Kd.slice 52 k52).M ((((wp.alloc (.cells #[] 52)).alloc (.cells #[] 52)).alloc (.cells #[] 52)).alloc (.cells #[.slice (some ⟨wp.heap.size, 0, none⟩) 0 0, .slice (some ⟨wp.heap.size + 1, 0, none⟩) 0 0, .slice (some ⟨wp.heap.size + 1 + 1, 0, none⟩) 0 0] 48)) base (fun k => wp.heap.size ≤ k ∧ some k ≠ (Value.slice (some ⟨wp.heap.size + 1 + 1 + 1, 0, none⟩) 3 3).ownBlock)) (w0 := ((((wp.alloc (.cells #[] 52)).alloc (.cells #[] 52)).alloc (.cells #[] 52)).alloc (.cells #[.slice (some ⟨wp.heap.size, 0, none⟩) 0 0, .slice (some ⟨wp.heap.size + 1, 0, none⟩) 0 0, .slice (some ⟨wp.heap.size + 1 + 1, 0, none⟩) 0 0] 48))) (Kd.slice 52 k52) base rfl _ _ 28 48 (.slice none 0 0) 24 rfl Tryd.underlying28 (by kernel_rfl) rfl (by decide) (by decide) (.slice (some ⟨B, 0, none⟩) l1.length cB) l1 [[], [], []] (some ⟨wp.heap.size + 1 + 1 + 1, 0, none⟩) 3 3 (fun k => some k ≠ (Value.slice (some ⟨C, 0, none⟩) l0.length ca).ownBlock) (fun k => wp.heap.size ≤ k) rfl rfl HF0.out.r1 hl3.out (fun x cs h => (Kd.slice 52 k52).M_mono (fun k hk => hk.1) h) (fun k hk => ⟨fun e => by have := hv0lt.out k e.symm; omega, fun e => by have := hv1lt.out k e.symm; omega⟩) (fun k hk e => Nat.lt_irrefl _ (Nat.lt_of_lt_of_le (Kd.R_lt HF0.out.r0 k e.symm) hk)) (Below.refl _ _) (Nat.le_trans Hb2.out (z7 HF0.out.K)) (by have := hok.out.2.1; omega) ?_)
                  intro va wa hra hba hga hata
                  obtain ⟨Ac, cc2, hva⟩ := Kd.yn hra
                  subst hva
                  have hcA : wa.cell? ⟨D, 1, none⟩ = some (.slice (some ⟨B, 0, none⟩) l1.length cB) := (zf (FG.grow1 HF0.out hga) 1).trans rfl
                  have hfA : wa.frozen? ⟨D, 1, none⟩ = false := zg (FG.grow1 HF0.out hga) 1
                  have HF := za.mk (FG.push1 HF0.out hra (below_of_grown hga HF0.out.nv (z7 HF0.out.K)) hga)
                  have e3 : (l1 ++ [[], [], []] : List (List S52)).length = l1.length + 3 := by simp
                  rw [e3] at HF
                  clear e3
                  clear hra hba hga hata HF0 hl3 hcp0
                  have hbR : (wa.setCell ⟨D, 1, none⟩ (.slice Ac (l1.length + 3) cc2)).heap[w.heap.size + 1]? = some (.cells #[.slice none 0 0, .slice none 0 0] 30 (0, 0)) := HF.out.K.blk hbr.out (by have := ze.lt HI.out; omega) (by simp)
                  have hc0 := HF.out.cell0
                  have hc1 := HF.out.cell1
                  have hbS := yT hbR 0 (.slice (some ⟨C, 0, none⟩) l0.length ca)
                  have hd0 : (wa.setCell ⟨D, 1, none⟩ (.slice Ac (l1.length + 3) cc2)).cell? ⟨w.heap.size + 1, 0, none⟩ = some (.slice none 0 0) := (zf hbR 0).trans rfl
                  have hf0 : (wa.setCell ⟨D, 1, none⟩ (.slice Ac (l1.length + 3) cc2)).frozen? ⟨w.heap.size + 1, 0, none⟩ = false := zg hbR 0
                  have hd1 : ((wa.setCell ⟨D, 1, none⟩ (.slice Ac (l1.length + 3) cc2)).setCell ⟨w.heap.size + 1, 0, none⟩ (.slice (some ⟨C, 0, none⟩) l0.length ca)).cell? ⟨w.heap.size + 1, 1, none⟩ = some (.slice none 0 0) := (zf hbS 1).trans rfl
                  have hf1 : ((wa.setCell ⟨D, 1, none⟩ (.slice Ac (l1.length + 3) cc2)).setCell ⟨w.heap.size + 1, 0, none⟩ (.slice (some ⟨C, 0, none⟩) l0.length ca)).frozen? ⟨w.heap.size + 1, 1, none⟩ = false := zg hbS 1
                  have hDn := za.mk (bdone HF.out (we := w) (R := w.heap.size + 1) (by have := hVs.out; omega) hbr.out (zk.of_below hbV.out g none) (Nat.le_succ _) (by have := ze.lt HI.out; omega) (by have := HB.out.size; omega))
                  clear hbR hbS
                  go_wp2_with (fail)
                  exact bodyPost_ret (results_cell_row rfl _ _ (w.heap.size + 1) 30 _ (0, 0) _ rfl hDn.out.1 Tryd.underlying30 rfl (show (Tryd.prog.info? 30).map (·.size) = some 2 by kernel_rfl)) rfl ⟨_, _, rfl, hDn.out.2⟩
                · rw [if_neg k5] at h
                  replace k5 : (c == 5) = false := beq_eq_false_iff_ne.mpr k5
                  by_cases k6 : c = 6
                  · rw [if_pos k6] at h
                    replace k6 : (c == 6) = true := beq_iff_eq.mpr k6
                    replace h := Option.bind_eq_some_iff.mp h
                    obtain ⟨⟨d, q2⟩, P50, h⟩ := h
                    have P50 := za.mk (show zi.f k s0_0 q 5 = some (d, q2) from P50)
                    rw [show app0 l1 ⟨4, [], [], wrap64 (d - 1)⟩ = l1.set 0 (x0 ++ [⟨4, [], [], wrap64 (d - 1)⟩]) from by rw [hx0e.out]; rfl] at h
                    simp only [Option.some.injEq, Prod.mk.injEq] at h
                    obtain ⟨hr1, hr2, hr3⟩ := h
                    subst hr1 hr2 hr3
                    go_upto_region 24 with (fail)
                    refine xi (n := 14) (S := fun w' => w'.cell? ⟨D, 1, none⟩ = some (.slice (some ⟨B, 0, none⟩) l1.length cB) ∧ w'.cell? ⟨B, 0, none⟩ = some (.slice Au x0.length cu)) (ds := [13]) #[false, false, false, false, false, false, false, false, false, false, false, false, false, false] (by kernel_rfl) rfl rfl ⟨(BG.cell1 (BG.drew HP.out)), (zA (yh (Below.refl _ _)) hB0)⟩ (fun hHeld => ?_)
                    refine zF (i := 0) (N := some 130) (v := ?_) (a' := ?_) #[true, false, false, false, false, false, false, false, false, false, false, false, false, false] rfl rfl (by kernel_rfl) (fun _ _ _ h => h) (Or.inl ⟨by rfl, ?_⟩) ?_ ?_
                    rotate_left
                    · intro w'
                      go_simp
                      with_reducible rfl
                    rotate_left
                    · simp only [Act.put, List.setIfInBounds_toArray, List.set_cons_zero, List.set_cons_succ, zn, zo]
                      rfl
                    refine zF (i := 2) (N := some 132) (v := ?_) (a' := ?_) #[true, false, true, false, false, false, false, false, false, false, false, false, false, false] rfl rfl (by kernel_rfl) (fun _ _ _ h => h) (Or.inl ⟨by rfl, ?_⟩) ?_ ?_
                    rotate_left
                    · intro w'
                      go_simp
                      with_reducible rfl
                    rotate_left
                    · simp only [Act.put, List.setIfInBounds_toArray, List.set_cons_zero, List.set_cons_succ, zn, zo]
                      rfl
                    refine zF (i := 6) (N := some 136) (v := ?_) (a' := ?_) #[true, false, true, false, false, false, true, false, false, false, false, false, false, false] rfl rfl (by kernel_rfl) (fun _ _ _ h => h) (Or.inl ⟨by rfl, ?_⟩) ?_ ?_
                    rotate_left
                    · intro w'
                      go_simp
                      with_reducible rfl
                    rotate_left
                    · simp only [Act.put, List.setIfInBounds_toArray, List.set_cons_zero, List.set_cons_succ, zn, zo]
                      rfl
                    refine yK (i := 1) (N := some 131) (v := ?_) (a' := ?_) #[true, true, true, false, false, false, true, false, false, false, false, false, false, false] rfl rfl (by kernel_rfl) (fun _ _ _ h => h) (Or.inl ⟨by rfl, ?_⟩) hHeld ?_ ?_
                    rotate_left
                    · rintro w' ⟨s0, s1⟩
                      go_simp
                      with_reducible rfl
                    rotate_left
                    · simp only [Act.put, List.setIfInBounds_toArray, List.set_cons_zero, List.set_cons_succ, zn, zo]
                      rfl
                    refine yK (i := 3) (N := some 133) (v := ?_) (a' := ?_) #[true, true, true, true, false, false, true, false, false, false, false, false, false, false] rfl rfl (by kernel_rfl) (fun _ _ _ h => h) (Or.inl ⟨by rfl, ?_⟩) hHeld ?_ ?_
                    rotate_left
                    · rintro w' ⟨s0, s1⟩
                      go_simp
                      with_reducible rfl
                    rotate_left
                    · simp only [Act.put, List.setIfInBounds_toArray, List.set_cons_zero, List.set_cons_succ, zn, zo]
                      rfl
                    refine zF (i := 4) (N := some 134) (v := ?_) (a' := ?_) #[true, true, true, true, true, false, true, false, false, false, false, false, false, false] rfl rfl (by kernel_rfl) (fun _ _ _ h => h) (Or.inl ⟨by rfl, ?_⟩) ?_ ?_
                    rotate_left
                    · intro w'
                      go_simp
                      with_reducible rfl
                    rotate_left
                    · simp only [Act.put, List.setIfInBounds_toArray, List.set_cons_zero, List.set_cons_succ, zn, zo]
                      rfl
                    refine yK (i := 5) (N := some 135) (v := ?_) (a' := ?_) #[true, true, true, true, true, true, true, false, false, false, false, false, false, false] rfl rfl (by kernel_rfl) (fun _ _ _ h => h) (Or.inl ⟨by rfl, ?_⟩) hHeld ?_ ?_
                    rotate_left
                    · rintro w' ⟨s0, s1⟩
                      go_simp
                      with_reducible rfl
                    rotate_left
                    · simp only [Act.put, List.setIfInBounds_toArray, List.set_cons_zero, List.set_cons_succ, zn, zo]
                      rfl
                    refine yM (i := 7) (N := some 137) #[true, true, true, true, true, true, true, true, false, false, false, false, false, false] rfl rfl (by kernel_rfl) (by decide) (fun K hK => ?_)
                    refine y7 Tryd.func56 (by kernel_rfl) rfl #[.pointer (some ⟨g, 0, none⟩), .int .i64 5] (by rfl) rfl rfl (by simp only [List.map_toArray, List.map_cons, List.map_nil]; rfl) ?_
                    with_reducible refine (zi.calls k g s0_0 q 5 d q2 w0 _ (BG.I (BG.drew HP.out)) (BG.B (BG.drew HP.out)) P50.out).mono ?_
                    rintro e w50 ⟨rfl, hi0, hb0, hk0⟩
                    refine ⟨_, rfl, ?_⟩
                    have H50 := za.mk (BG.keep (BG.drew HP.out) hi0 hb0 hk0)
                    have hB50 := cell_k hk0 (zA (yh (Below.refl _ _)) hB0) (BG.gB (BG.drew HP.out))
                    refine hK.out _ _ ⟨(BG.cell1 H50.out), hB50⟩ (fun hHeld => ?_)
                    clear hK K
                    refine zQ (a' := ?_) ?_ ?_
                    rotate_left
                    · show Act.put _ (some 137) _ = _
                      simp only [Act.put, List.setIfInBounds_toArray, List.set_cons_zero, List.set_cons_succ, zn, zo]
                      rfl
                    refine zF (i := 8) (N := some 138) (v := ?_) (a' := ?_) #[true, true, true, true, true, true, true, true, true, false, false, false, false, false] rfl rfl (by kernel_rfl) (fun _ _ _ h => h) (Or.inl ⟨by rfl, ?_⟩) ?_ ?_
                    rotate_left
                    · intro w'
                      go_simp
                      with_reducible rfl
                    rotate_left
                    · simp only [Act.put, List.setIfInBounds_toArray, List.set_cons_zero, List.set_cons_succ, zn, zo]
                      rfl
                    refine zF (i := 9) (N := some 139) (v := ?_) (a' := ?_) #[true, true, true, true, true, true, true, true, true, true, false, false, false, false] rfl rfl (by kernel_rfl) (fun _ _ _ h => h) (Or.inl ⟨by rfl, ?_⟩) ?_ ?_
                    rotate_left
                    · intro w'
                      go_simp
                      with_reducible rfl
                    rotate_left
                    · simp only [Act.put, List.setIfInBounds_toArray, List.set_cons_zero, List.set_cons_succ, zn, zo]
                      rfl
                    refine yM (i := 10) (N := some 140) #[true, true, true, true, true, true, true, true, true, true, true, false, false, false] rfl rfl (by kernel_rfl) (by decide) (fun K hK => ?_)
                    refine yI (w1 := ?_) (v := ?_) (by rfl) rfl ?_ ?_
                    rotate_left 2
                    · go_simp
                      constructor
                      · rfl
                      · rfl
                    refine hK.out _ _ ⟨(BG.cell1 (BG.alloc H50.out _)), (zA (zc (Below.refl _ _) _) hB50)⟩ (fun hHeld => ?_)
                    clear hK K
                    refine zQ (a' := ?_) ?_ ?_
                    rotate_left
                    · show Act.put _ (some 140) _ = _
                      simp only [Act.put, List.setIfInBounds_toArray, List.set_cons_zero, List.set_cons_succ, zn, zo]
                      rfl
                    refine yM (i := 11) (N := some 141) #[true, true, true, true, true, true, true, true, true, true, true, true, false, false] rfl rfl (by kernel_rfl) (by decide) (fun K hK => ?_)
                    obtain ⟨oki, hoki, huR, hH, hDu, hBu, hfu⟩ := BG.lendU H50.out hlN hB50
                    rw [← hx0e.out] at huR
                    have hM : k52.M w50 base (fun k => some k ≠ (Value.slice (some ⟨C, 0, none⟩) l0.length ca).ownBlock) (⟨4, [], [], wrap64 (d - 1)⟩ : S52) [.int .i64 4, .slice none 0 0, .slice none 0 0, .int .i64 (wrap64 (d - 1))] := xC _ _ _ (⟨4, [], [], wrap64 (d - 1)⟩ : S52) (Kd.xG _ _ _ _ _) (Kd.xG _ _ _ _ _)
                    have hv0lt := Kd.R_lt (BG.r0 H50.out)
                    refine Kd.yW (w0 := w50) (kz (k52.M w50 base (fun k => some k ≠ (Value.slice (some ⟨C, 0, none⟩) l0.length ca).ownBlock))) V.heap.size (by rfl) (.tmp 135) (.tmp 140) 48 52 (.agg #[.int .i64 0, .slice none 0 0, .slice none 0 0, .int .i64 0]) 64 (by rfl) Tryd.underlying48 (by kernel_rfl) (by rfl) (show (0 : Nat) < 4 by decide) (by decide) (.slice Au x0.length cu) x0 (⟨4, [], [], wrap64 (d - 1)⟩ : S52) [.int .i64 4, .slice none 0 0, .slice none 0 0, .int .i64 (wrap64 (d - 1))] (fun k => oki k ∨ some k ≠ (Value.slice (some ⟨C, 0, none⟩) l0.length ca).ownBlock ∧ w50.heap.size ≤ k) (fun _ => False) (by rfl) (by first | rfl | (go_simp; done) | (simp; done)) (kz_mk hM hM) (fun _ hk => hk.elim) (fun k hk => .inr ⟨fun e => by have h1 := hv0lt k e.symm; omega, hk⟩) (Kd.zZ huR (fun _ hk => .inl hk)) (Below.refl _ _) (z7 (BG.K H50.out)) (by have h1 := hx0.out; omega) ?_
                    intro va wa hra hba hga hata
                    obtain ⟨Ac, cc2, hva⟩ := Kd.yn hra
                    subst hva
                    have HA := za.mk (BG.app0 H50.out hlN hoki huR hH hra hba hga)
                    have hcB : wa.cell? ⟨B, 0, none⟩ = some (.slice Au x0.length cu) := cell_g hga hB50 hBu
                    have hcD : wa.cell? ⟨D, 1, none⟩ = some (.slice (some ⟨B, 0, none⟩) l1.length cB) := cell_g hga (BG.cell1 H50.out) hDu
                    have hfB := hfu _ hga
                    refine hK.out _ _ ⟨hcD, hcB⟩ (fun hHeld => ?_)
                    clear hK K
                    refine zQ (a' := ?_) ?_ ?_
                    rotate_left
                    · show Act.put _ (some 141) _ = _
                      simp only [Act.put, List.setIfInBounds_toArray, List.set_cons_zero, List.set_cons_succ, zn, zo]
                      rfl
                    refine zF (i := 12) (N := some 142) (v := ?_) (a' := ?_) #[true, true, true, true, true, true, true, true, true, true, true, true, true, false] rfl rfl (by kernel_rfl) (fun _ _ _ h => h) (Or.inl ⟨by rfl, ?_⟩) ?_ ?_
                    rotate_left
                    · intro w'
                      go_simp
                      with_reducible rfl
                    rotate_left
                    · simp only [Act.put, List.setIfInBounds_toArray, List.set_cons_zero, List.set_cons_succ, zn, zo]
                      rfl
                    refine last_ (i := 13) (N := none) #[true, true, true, true, true, true, true, true, true, true, true, true, true, true] rfl rfl (by kernel_rfl) (by decide) (fun K hK => ?_)
                    refine skip_ (w1 := ?_) (by rfl) rfl ?_ ?_
                    rotate_left
                    · go_simp
                      rfl
                    refine hK.out _ _ ?_
                    clear hK K
                    refine xA (by kernel_rfl) ?_
                    have HF := za.mk (FG.done (BG.fin HA.out))
                    simp only [List.length_append, List.length_cons, List.length_nil, Nat.zero_add] at HF
                    clear hcB hcD hfB HP HA hra hba hga hata
                    generalize hwE : wa.setCell ⟨B, 0, none⟩ (.slice Ac (x0.length + 1) cc2) = wE at HF ⊢
                    clear hwE
                    have hbR : wE.heap[w.heap.size + 1]? = some (.cells #[.slice none 0 0, .slice none 0 0] 30 (0, 0)) := HF.out.K.blk hbr.out (by have := ze.lt HI.out; omega) (by simp)
                    have hc0 := HF.out.cell0
                    have hc1 := HF.out.cell1
                    have hbS := yT hbR 0 (.slice (some ⟨C, 0, none⟩) l0.length ca)
                    have hd0 : wE.cell? ⟨w.heap.size + 1, 0, none⟩ = some (.slice none 0 0) := (zf hbR 0).trans rfl
                    have hf0 : wE.frozen? ⟨w.heap.size + 1, 0, none⟩ = false := zg hbR 0
                    have hd1 : (wE.setCell ⟨w.heap.size + 1, 0, none⟩ (.slice (some ⟨C, 0, none⟩) l0.length ca)).cell? ⟨w.heap.size + 1, 1, none⟩ = some (.slice none 0 0) := (zf hbS 1).trans rfl
                    have hf1 : (wE.setCell ⟨w.heap.size + 1, 0, none⟩ (.slice (some ⟨C, 0, none⟩) l0.length ca)).frozen? ⟨w.heap.size + 1, 1, none⟩ = false := zg hbS 1
                    have hDn := za.mk (bdone HF.out (we := w) (R := w.heap.size + 1) (by have := hVs.out; omega) hbr.out (zk.of_below hbV.out g none) (Nat.le_succ _) (by have := ze.lt HI.out; omega) (by have := HB.out.size; omega))
                    clear hbR hbS
                    go_wp2_with (fail)
                    exact bodyPost_ret (results_cell_row rfl _ _ (w.heap.size + 1) 30 _ (0, 0) _ rfl hDn.out.1 Tryd.underlying30 rfl (show (Tryd.prog.info? 30).map (·.size) = some 2 by kernel_rfl)) rfl ⟨_, _, rfl, hDn.out.2⟩
                  · rw [if_neg k6] at h
                    replace k6 : (c == 6) = false := beq_eq_false_iff_ne.mpr k6
                    have h := (show some (l0, apps 5 l1, q) = some (r1, r2, r3) from h)
                    simp only [Option.some.injEq, Prod.mk.injEq] at h
                    obtain ⟨hr1, hr2, hr3⟩ := h
                    subst hr1 hr2 hr3
                    go_wp2_with (fail)
                    go_loopg [7] 5 (fun m v7 w' => ∃ (j : Int) (L : List (List S52)), v7 = .int .i64 j ∧ za (j + m = 5 ∧ 0 ≤ j) ∧ za (apps m L = apps 5 l1 ∧ L.length = l1.length ∧ (L.getD 0 []).length + m < 1010) ∧ za (BG w0 V w' g D base s0_0 q (.slice (some ⟨C, 0, none⟩) l0.length ca) (.slice (some ⟨B, 0, none⟩) l1.length cB) l0 L))
                    case atStart => exact ⟨0, l1, rfl, ⟨by simp⟩, ⟨rfl, rfl, by have h1 := hx0.out; have h2 := hx0e.out; rw [← h2]; omega⟩, HP⟩
                    case round =>
                      clear HP
                      obtain ⟨j7, L, rfl, hj7, hL7, HG⟩ := hrel
                      cases gk with
                      | zero =>
                        have cb7 : decide (j7 < 5) = false := by have := hj7.out; exact decide_eq_false (by omega)
                        have hL : L = apps 5 l1 := hL7.out.1
                        rw [hL] at HG
                        clear hL hL7
                        have HF := za.mk (FG.done (BG.fin HG.out))
                        clear HG
                        have hbR : wr.heap[w.heap.size + 1]? = some (.cells #[.slice none 0 0, .slice none 0 0] 30 (0, 0)) := HF.out.K.blk hbr.out (by have := ze.lt HI.out; omega) (by simp)
                        have hc0 := HF.out.cell0
                        have hc1 := HF.out.cell1
                        have hbS := yT hbR 0 (.slice (some ⟨C, 0, none⟩) l0.length ca)
                        have hd0 : wr.cell? ⟨w.heap.size + 1, 0, none⟩ = some (.slice none 0 0) := (zf hbR 0).trans rfl
                        have hf0 : wr.frozen? ⟨w.heap.size + 1, 0, none⟩ = false := zg hbR 0
                        have hd1 : (wr.setCell ⟨w.heap.size + 1, 0, none⟩ (.slice (some ⟨C, 0, none⟩) l0.length ca)).cell? ⟨w.heap.size + 1, 1, none⟩ = some (.slice none 0 0) := (zf hbS 1).trans rfl
                        have hf1 : (wr.setCell ⟨w.heap.size + 1, 0, none⟩ (.slice (some ⟨C, 0, none⟩) l0.length ca)).frozen? ⟨w.heap.size + 1, 1, none⟩ = false := zg hbS 1
                        have hDn := za.mk (bdone HF.out (we := w) (R := w.heap.size + 1) (by have := hVs.out; omega) hbr.out (zk.of_below hbV.out g none) (Nat.le_succ _) (by have := ze.lt HI.out; omega) (by have := HB.out.size; omega))
                        clear hbR hbS
                        go_wp2_with (fail)
                        exact bodyPost_ret (results_cell_row rfl _ _ (w.heap.size + 1) 30 _ (0, 0) _ rfl hDn.out.1 Tryd.underlying30 rfl (show (Tryd.prog.info? 30).map (·.size) = some 2 by kernel_rfl)) rfl ⟨_, _, rfl, hDn.out.2⟩
                      | succ m =>
                        have cb7 : decide (j7 < 5) = true := by have := hj7.out; exact decide_eq_true (by omega)
                        have hlL : 0 < L.length := by have h1 := hL7.out.2.1; omega
                        obtain ⟨oki0, u0, hB0, -, -, hu0, -⟩ := BG.lend HG.out hlN
                        obtain ⟨x0, hx0e⟩ : ∃ x0, x0 = L.getD 0 [] := ⟨_, rfl⟩
                        rw [← hx0e] at hu0
                        obtain ⟨Au, cu, hu0e⟩ := Kd.yn hu0
                        subst hu0e
                        have hx0 := za.mk (show x0.length < 1010 by have h1 := hL7.out.2.2; rw [← hx0e] at h1; omega)
                        replace hx0e := za.mk hx0e
                        replace hlL := za.mk hlL
                        clear hu0
                        obtain ⟨wx, hwx⟩ : ∃ wx : World, wx = wr := ⟨_, rfl⟩
                        go_upto_region 10 with (fail)
                        rw [← hwx] at HG hB0 ⊢
                        clear hwx wr
                        refine xi (n := 11) (S := fun w' => w'.cell? ⟨D, 1, none⟩ = some (.slice (some ⟨B, 0, none⟩) l1.length cB) ∧ w'.cell? ⟨B, 0, none⟩ = some (.slice Au x0.length cu)) (ds := [10]) #[false, false, false, false, false, false, false, false, false, false, false] (by kernel_rfl) rfl rfl ⟨(BG.cell1 (BG.drew HG.out)), (zA (yh (Below.refl _ _)) hB0)⟩ (fun hHeld => ?_)
                        refine zF (i := 0) (N := some 38) (v := ?_) (a' := ?_) #[true, false, false, false, false, false, false, false, false, false, false] rfl rfl (by kernel_rfl) (fun _ _ _ h => h) (Or.inl ⟨by rfl, ?_⟩) ?_ ?_
                        rotate_left
                        · intro w'
                          go_simp
                          with_reducible rfl
                        rotate_left
                        · simp only [Act.put, List.setIfInBounds_toArray, List.set_cons_zero, List.set_cons_succ, zn, zo]
                          rfl
                        refine zF (i := 2) (N := some 40) (v := ?_) (a' := ?_) #[true, false, true, false, false, false, false, false, false, false, false] rfl rfl (by kernel_rfl) (fun _ _ _ h => h) (Or.inl ⟨by rfl, ?_⟩) ?_ ?_
                        rotate_left
                        · intro w'
                          go_simp
                          with_reducible rfl
                        rotate_left
                        · simp only [Act.put, List.setIfInBounds_toArray, List.set_cons_zero, List.set_cons_succ, zn, zo]
                          rfl
                        refine zF (i := 6) (N := some 44) (v := ?_) (a' := ?_) #[true, false, true, false, false, false, true, false, false, false, false] rfl rfl (by kernel_rfl) (fun _ _ _ h => h) (Or.inl ⟨by rfl, ?_⟩) ?_ ?_
                        rotate_left
                        · intro w'
                          go_simp
                          with_reducible rfl
                        rotate_left
                        · simp only [Act.put, List.setIfInBounds_toArray, List.set_cons_zero, List.set_cons_succ, zn, zo]
                          rfl
                        refine yK (i := 1) (N := some 39) (v := ?_) (a' := ?_) #[true, true, true, false, false, false, true, false, false, false, false] rfl rfl (by kernel_rfl) (fun _ _ _ h => h) (Or.inl ⟨by rfl, ?_⟩) hHeld ?_ ?_
                        rotate_left
                        · rintro w' ⟨s0, s1⟩
                          go_simp
                          with_reducible rfl
                        rotate_left
                        · simp only [Act.put, List.setIfInBounds_toArray, List.set_cons_zero, List.set_cons_succ, zn, zo]
                          rfl
                        refine yK (i := 3) (N := some 41) (v := ?_) (a' := ?_) #[true, true, true, true, false, false, true, false, false, false, false] rfl rfl (by kernel_rfl) (fun _ _ _ h => h) (Or.inl ⟨by rfl, ?_⟩) hHeld ?_ ?_
                        rotate_left
                        · rintro w' ⟨s0, s1⟩
                          go_simp
                          with_reducible rfl
                        rotate_left
                        · simp only [Act.put, List.setIfInBounds_toArray, List.set_cons_zero, List.set_cons_succ, zn, zo]
                          rfl
                        refine zF (i := 4) (N := some 42) (v := ?_) (a' := ?_) #[true, true, true, true, true, false, true, false, false, false, false] rfl rfl (by kernel_rfl) (fun _ _ _ h => h) (Or.inl ⟨by rfl, ?_⟩) ?_ ?_
                        rotate_left
                        · intro w'
                          go_simp
                          with_reducible rfl
                        rotate_left
                        · simp only [Act.put, List.setIfInBounds_toArray, List.set_cons_zero, List.set_cons_succ, zn, zo]
                          rfl
                        refine yK (i := 5) (N := some 43) (v := ?_) (a' := ?_) #[true, true, true, true, true, true, true, false, false, false, false] rfl rfl (by kernel_rfl) (fun _ _ _ h => h) (Or.inl ⟨by rfl, ?_⟩) hHeld ?_ ?_
                        rotate_left
                        · rintro w' ⟨s0, s1⟩
                          go_simp
                          with_reducible rfl
                        rotate_left
                        · simp only [Act.put, List.setIfInBounds_toArray, List.set_cons_zero, List.set_cons_succ, zn, zo]
                          rfl
                        refine yM (i := 7) (N := some 45) #[true, true, true, true, true, true, true, true, false, false, false] rfl rfl (by kernel_rfl) (by decide) (fun K hK => ?_)
                        refine yI (w1 := ?_) (v := ?_) (by rfl) rfl ?_ ?_
                        rotate_left 2
                        · go_simp
                          constructor
                          · rfl
                          · rfl
                        refine hK.out _ _ ⟨(BG.cell1 (BG.alloc (BG.drew HG.out) _)), (zA (zc (Below.refl _ _) _) (zA (yh (Below.refl _ _)) hB0))⟩ (fun hHeld => ?_)
                        clear hK K
                        refine zQ (a' := ?_) ?_ ?_
                        rotate_left
                        · show Act.put _ (some 45) _ = _
                          simp only [Act.put, List.setIfInBounds_toArray, List.set_cons_zero, List.set_cons_succ, zn, zo]
                          rfl
                        refine yM (i := 8) (N := some 46) #[true, true, true, true, true, true, true, true, true, false, false] rfl rfl (by kernel_rfl) (by decide) (fun K hK => ?_)
                        obtain ⟨oki, hoki, huR, hH, hDu, hBu, hfu⟩ := BG.lendU (BG.drew HG.out) hlN (zA (yh (Below.refl _ _)) hB0)
                        rw [← hx0e.out] at huR
                        have hM : k52.M wx.drew base (fun k => some k ≠ (Value.slice (some ⟨C, 0, none⟩) l0.length ca).ownBlock) (⟨3, [], [], 0⟩ : S52) [.int .i64 3, .slice none 0 0, .slice none 0 0, .int .i64 0] := xC _ _ _ (⟨3, [], [], 0⟩ : S52) (Kd.xG _ _ _ _ _) (Kd.xG _ _ _ _ _)
                        have hv0lt := Kd.R_lt (BG.r0 (BG.drew HG.out))
                        refine Kd.yW (w0 := wx.drew) (kz (k52.M wx.drew base (fun k => some k ≠ (Value.slice (some ⟨C, 0, none⟩) l0.length ca).ownBlock))) V.heap.size (by rfl) (.tmp 43) (.tmp 45) 48 52 (.agg #[.int .i64 0, .slice none 0 0, .slice none 0 0, .int .i64 0]) 64 (by rfl) Tryd.underlying48 (by kernel_rfl) (by rfl) (show (0 : Nat) < 4 by decide) (by decide) (.slice Au x0.length cu) x0 (⟨3, [], [], 0⟩ : S52) [.int .i64 3, .slice none 0 0, .slice none 0 0, .int .i64 0] (fun k => oki k ∨ some k ≠ (Value.slice (some ⟨C, 0, none⟩) l0.length ca).ownBlock ∧ wx.drew.heap.size ≤ k) (fun _ => False) (by rfl) (by first | rfl | (go_simp; done) | (simp; done)) (kz_mk hM hM) (fun _ hk => hk.elim) (fun k hk => .inr ⟨fun e => by have h1 := hv0lt k e.symm; omega, hk⟩) (Kd.zZ huR (fun _ hk => .inl hk)) (Below.refl _ _) (z7 (BG.K (BG.drew HG.out))) (by have h1 := hx0.out; omega) ?_
                        intro va wa hra hba hga hata
                        obtain ⟨Ac, cc2, hva⟩ := Kd.yn hra
                        subst hva
                        have HA := za.mk (BG.app0 (BG.drew HG.out) hlN hoki huR hH hra hba hga)
                        have hcB : wa.cell? ⟨B, 0, none⟩ = some (.slice Au x0.length cu) := cell_g hga (zA (yh (Below.refl _ _)) hB0) hBu
                        have hcD : wa.cell? ⟨D, 1, none⟩ = some (.slice (some ⟨B, 0, none⟩) l1.length cB) := cell_g hga (BG.cell1 (BG.drew HG.out)) hDu
                        have hfB := hfu _ hga
                        refine hK.out _ _ ⟨hcD, hcB⟩ (fun hHeld => ?_)
                        clear hK K
                        refine zQ (a' := ?_) ?_ ?_
                        rotate_left
                        · show Act.put _ (some 46) _ = _
                          simp only [Act.put, List.setIfInBounds_toArray, List.set_cons_zero, List.set_cons_succ, zn, zo]
                          rfl
                        refine zF (i := 9) (N := some 47) (v := ?_) (a' := ?_) #[true, true, true, true, true, true, true, true, true, true, false] rfl rfl (by kernel_rfl) (fun _ _ _ h => h) (Or.inl ⟨by rfl, ?_⟩) ?_ ?_
                        rotate_left
                        · intro w'
                          go_simp
                          with_reducible rfl
                        rotate_left
                        · simp only [Act.put, List.setIfInBounds_toArray, List.set_cons_zero, List.set_cons_succ, zn, zo]
                          rfl
                        refine last_ (i := 10) (N := none) #[true, true, true, true, true, true, true, true, true, true, true] rfl rfl (by kernel_rfl) (by decide) (fun K hK => ?_)
                        refine skip_ (w1 := ?_) (by rfl) rfl ?_ ?_
                        rotate_left
                        · go_simp
                          rfl
                        refine hK.out _ _ ?_
                        clear hK K
                        refine xA (by kernel_rfl) ?_
                        have hap := app0_head L (⟨3, [], [], 0⟩ : S52) hlL.out
                        have ej7 : wrap64 (j7 + 1) = j7 + 1 := by have h1 := hj7.out; unfold wrap64; omega
                        simp only [List.length_append, List.length_cons, List.length_nil, Nat.zero_add] at HA
                        rw [show L.set 0 (x0 ++ [(⟨3, [], [], 0⟩ : S52)]) = app0 L (⟨3, [], [], 0⟩ : S52) from by rw [hx0e.out]; rfl] at HA
                        clear hcB hcD hfB hra hba hga hata hB0
                        go_wp2
                        go_roundg m
                        case measure => exact Nat.lt_succ_self _
                        case rel => exact ⟨j7 + 1, app0 L (⟨3, [], [], 0⟩ : S52), by first | rfl | (simp [ej7]; done), ⟨by have h1 := hj7.out; omega⟩, ⟨hL7.out.1, (app0_len _ _).trans hL7.out.2.1, by have h1 := hL7.out.2.2; rw [hap, List.length_append]; simp only [List.length_cons, List.length_nil]; omega⟩, HA⟩
    | succ m =>
      have cb : decide (j < l1.length) = true := by have := hj.out; exact decide_eq_true (by omega)
      obtain ⟨wx, hwx⟩ : ∃ wx : World, wx = wr := ⟨_, rfl⟩
      go_upto_region 5 with (fail)
      rw [← hwx] at HG hp1 ⊢
      clear hwx wr
      have hjn : j.toNat < l1.length := by have := hj.out; omega
      have hpR := Kd.zZ (ok' := fun k => k < V.heap.size) (Kd.R_keep (ze.apart hIV.out (Kd.zZ (ok' := fun k => k < V.heap.size) (Kd.xr hR1V.out) (fun k hk => hk.2.2.1)) (by decide)) HG.out.K (fun _ hk => hk.2)) (fun _ hk => hk.1)
      obtain ⟨P, cP, hA1, _, hPlt, _⟩ := Kd.R_form hpR (by omega)
      injection hA1 with hA1 _ hcc
      subst hA1
      clear hcc cP
      have hPV : P < V.heap.size := Kd.R_lt hR1V.out P (by simp [Value.ownBlock])
      obtain ⟨cc, hcl, hM, hcc, _⟩ := Kd.R_elem hpR ([] : List S52) j (by have := hj.out; omega) (by have := hj.out; omega)
      obtain ⟨u, rfl, hu⟩ := hM
      obtain ⟨x, hx⟩ : ∃ x, x = l1.getD j.toNat [] := ⟨_, rfl⟩
      rw [← hx] at hu
      have hq2 : wx.cell? ⟨P, j.toNat, none⟩ = some u := by have := hcc 0 u rfl; simpa [Kd.slice] using this
      obtain ⟨Au, cu, he, hcu, hRu⟩ := xf.reads hu.2
      subst he
      have hv0ge : ∀ k, (Value.slice Aa l0.length ca).ownBlock = some k → V.heap.size ≤ k := Kd.xM HG.out.r0
      have hRu := za.mk (xa.imp_ hRu (Below.refl _ _) (fun x cs h => k52.M_mono (ok' := fun k => some k ≠ (Value.slice Aa l0.length ca).ownBlock) (fun k hk e => by have h1 := hv0ge k e.symm; have h2 := hk.1.1; omega) h))
      have hq0 := hp1
      have hq1 := HG.out.cell1
      have hx1 : x.length < 1000 := by
        have h1 := List.all_eq_true.mp hok.out.2.2 (l1[j.toNat]) (List.getElem_mem _)
        rw [hx, List.getD_eq_getElem?_getD, List.getElem?_eq_getElem hjn]
        exact of_decide_eq_true h1
      have ej : wrap64 (j + 1) = j + 1 := by have h1 := hok.out.2.1; have h2 := hj.out; unfold wrap64; omega
      have hjp : 0 ≤ j := hj.out.2.1
      have hjl : j < (l1.length : Int) := by omega
      replace hjn := za.mk hjn
      replace hx := za.mk hx
      replace hpR := za.mk hpR
      replace hu := za.mk hu
      clear hcc hcl hp1 hPlt
      replace hx1 := za.mk hx1
      replace hPV := za.mk hPV
      refine xi (n := 13) (S := fun w' => w'.cell? ⟨w.heap.size, 1, none⟩ = some (.slice (some ⟨P, 0, none⟩) l1.length c1) ∧ w'.cell? ⟨D, 1, none⟩ = some v1 ∧ w'.cell? ⟨P, j.toNat, none⟩ = some (.slice Au x.length cu)) (ds := [12]) #[false, false, false, false, false, false, false, false, false, false, false, false, false] (by kernel_rfl) rfl rfl ⟨(zA (yh (Below.refl _ _)) hq0), (zA (yh (Below.refl _ _)) hq1), (zA (yh (Below.refl _ _)) hq2)⟩ (fun hHeld => ?_)
      refine zF (i := 0) (N := some 20) (v := ?_) (a' := ?_) #[true, false, false, false, false, false, false, false, false, false, false, false, false] rfl rfl (by kernel_rfl) (fun _ _ _ h => h) (Or.inl ⟨by rfl, ?_⟩) ?_ ?_
      rotate_left
      · intro w'
        go_simp
        with_reducible rfl
      rotate_left
      · simp only [Act.put, List.setIfInBounds_toArray, List.set_cons_zero, List.set_cons_succ, zn, zo]
        rfl
      refine zF (i := 3) (N := some 23) (v := ?_) (a' := ?_) #[true, false, false, true, false, false, false, false, false, false, false, false, false] rfl rfl (by kernel_rfl) (fun _ _ _ h => h) (Or.inl ⟨by rfl, ?_⟩) ?_ ?_
      rotate_left
      · intro w'
        go_simp
        with_reducible rfl
      rotate_left
      · simp only [Act.put, List.setIfInBounds_toArray, List.set_cons_zero, List.set_cons_succ, zn, zo]
        rfl
      refine zF (i := 5) (N := some 25) (v := ?_) (a' := ?_) #[true, false, false, true, false, true, false, false, false, false, false, false, false] rfl rfl (by kernel_rfl) (fun _ _ _ h => h) (Or.inl ⟨by rfl, ?_⟩) ?_ ?_
      rotate_left
      · intro w'
        go_simp
        with_reducible rfl
      rotate_left
      · simp only [Act.put, List.setIfInBounds_toArray, List.set_cons_zero, List.set_cons_succ, zn, zo]
        rfl
      refine yK (i := 1) (N := some 21) (v := ?_) (a' := ?_) #[true, true, false, true, false, true, false, false, false, false, false, false, false] rfl rfl (by kernel_rfl) (fun _ _ _ h => h) (Or.inl ⟨by rfl, ?_⟩) hHeld ?_ ?_
      rotate_left
      · rintro w' ⟨s0, s1, s2⟩
        go_simp
        with_reducible rfl
      rotate_left
      · simp only [Act.put, List.setIfInBounds_toArray, List.set_cons_zero, List.set_cons_succ, zn, zo]
        rfl
      refine yK (i := 4) (N := some 24) (v := ?_) (a' := ?_) #[true, true, false, true, true, true, false, false, false, false, false, false, false] rfl rfl (by kernel_rfl) (fun _ _ _ h => h) (Or.inl ⟨by rfl, ?_⟩) hHeld ?_ ?_
      rotate_left
      · rintro w' ⟨s0, s1, s2⟩
        go_simp
        with_reducible rfl
      rotate_left
      · simp only [Act.put, List.setIfInBounds_toArray, List.set_cons_zero, List.set_cons_succ, zn, zo]
        rfl
      refine zF (i := 6) (N := some 26) (v := ?_) (a' := ?_) #[true, true, false, true, true, true, true, false, false, false, false, false, false] rfl rfl (by kernel_rfl) (fun _ _ _ h => h) (Or.inl ⟨by rfl, ?_⟩) ?_ ?_
      rotate_left
      · intro w'
        go_simp
        with_reducible rfl
      rotate_left
      · simp only [Act.put, List.setIfInBounds_toArray, List.set_cons_zero, List.set_cons_succ, zn, zo]
        rfl
      refine yK (i := 7) (N := some 27) (v := ?_) (a' := ?_) #[true, true, false, true, true, true, true, true, false, false, false, false, false] rfl rfl (by kernel_rfl) (fun _ _ _ h => h) (Or.inl ⟨by rfl, ?_⟩) hHeld ?_ ?_
      rotate_left
      · rintro w' ⟨s0, s1, s2⟩
        go_simp
        with_reducible rfl
      rotate_left
      · simp only [Act.put, List.setIfInBounds_toArray, List.set_cons_zero, List.set_cons_succ, zn, zo]
        rfl
      refine yM (i := 2) (N := some 22) #[true, true, true, true, true, true, true, true, false, false, false, false, false] rfl rfl (by kernel_rfl) (by decide) (fun K hK => ?_)
      refine yI (w1 := ?_) (v := ?_) (by rfl) rfl ?_ ?_
      rotate_left 2
      · go_simp
        constructor
        · rfl
        · rfl
      refine hK.out _ _ ⟨(zA (zc (yh (Below.refl _ _)) _) hq0), (zA (zc (yh (Below.refl _ _)) _) hq1), (zA (zc (yh (Below.refl _ _)) _) hq2)⟩ (fun hHeld => ?_)
      clear hK K
      refine zQ (a' := ?_) ?_ ?_
      rotate_left
      · show Act.put _ (some 22) _ = _
        simp only [Act.put, List.setIfInBounds_toArray, List.set_cons_zero, List.set_cons_succ, zn, zo]
        rfl
      refine yM (i := 8) (N := some 28) #[true, true, true, true, true, true, true, true, true, false, false, false, false] rfl rfl (by kernel_rfl) (by decide) (fun K hK => ?_)
      refine Kd.R_append_rows_step (Rr := k52.M wx base (fun k => some k ≠ (Value.slice Aa l0.length ca).ownBlock)) (w0 := wx) (kz (k52.M wx base (fun k => some k ≠ (Value.slice Aa l0.length ca).ownBlock))) wx.heap.size (by rfl) (.tmp 22) (.tmp 27) 48 52 (.agg #[.int .i64 0, .slice none 0 0, .slice none 0 0, .int .i64 0]) 64 (by rfl) Tryd.underlying48 (by kernel_rfl) (by rfl) (show (0 : Nat) < 4 by decide) (by decide) (.slice (some ⟨wx.heap.size, 0, none⟩) 0 0) [] x Au x.length cu (fun k => wx.heap.size ≤ k) (fun _ => False) (by rfl) (by first | rfl | (go_simp; done) | (simp; done)) (R_nought (heap_alloc_new _ _) (Nat.le_refl _) (Nat.le_refl _)) (xa.imp_ hRu.out (zc (yh (Below.refl _ _)) _) (fun _ _ h => h)) (fun x cs h => kz_mk h h) (fun _ hk => hk.elim) (fun k hk => by have hk' : (wx.drew.alloc (.cells #[] 52)).heap.size ≤ k := hk; have h2 : (wx.drew.alloc (.cells #[] 52)).heap.size = wx.heap.size + 1 := (by simp); omega) (zc (yh (Below.refl _ _)) _) (by simp) (by have h1 := hx1.out; simp; omega) ?_
      intro vb wb hrb hbb hgb hatb
      obtain ⟨Ab, cb', hvb⟩ := Kd.yn hrb
      rw [List.nil_append] at hvb
      subst hvb
      rw [List.nil_append] at hrb
      clear hgb hatb
      refine hK.out _ _ ⟨(zA hbb hq0), (zA hbb hq1), (zA hbb hq2)⟩ (fun hHeld => ?_)
      clear hK K
      refine zQ (a' := ?_) ?_ ?_
      rotate_left
      · show Act.put _ (some 28) _ = _
        simp only [Act.put, List.setIfInBounds_toArray, List.set_cons_zero, List.set_cons_succ, zn, zo]
        rfl
      refine yM (i := 9) (N := some 29) #[true, true, true, true, true, true, true, true, true, true, false, false, false] rfl rfl (by kernel_rfl) (by decide) (fun K hK => ?_)
      refine yI (w1 := ?_) (v := ?_) (by rfl) rfl ?_ ?_
      rotate_left 2
      · go_simp
        constructor
        · rfl
        · rfl
      refine hK.out _ _ ⟨(zA (zc hbb _) hq0), (zA (zc hbb _) hq1), (zA (zc hbb _) hq2)⟩ (fun hHeld => ?_)
      clear hK K
      refine zQ (a' := ?_) ?_ ?_
      rotate_left
      · show Act.put _ (some 29) _ = _
        simp only [Act.put, List.setIfInBounds_toArray, List.set_cons_zero, List.set_cons_succ, zn, zo]
        rfl
      refine yM (i := 10) (N := some 30) #[true, true, true, true, true, true, true, true, true, true, true, false, false] rfl rfl (by kernel_rfl) (by decide) (fun K hK => ?_)
      have hHB := BG.below HG.out hbb
      have hpz : k52.M wx base (fun k => some k ≠ (Value.slice Aa l0.length ca).ownBlock) = k52.M wx base (fun k => some k ≠ (Value.slice Aa l0.length ca).ownBlock) := rfl
      have hrz := kz_R (P' := k52.M wb base (fun k => some k ≠ (Value.slice Aa l0.length ca).ownBlock)) (fun x cs hx => Kd.M_below hx hbb) hrb
      have hS0 := Kd.xh (Kd.S_old HG.out.r1 hbb) (ok' := fun k => some k ≠ (Value.slice Aa l0.length ca).ownBlock ∧ ¬ (wx.heap.size ≤ k)) (fun k hk => ⟨hk.1, by have := hk.2; omega⟩)
      have hS1 := kz_S (P' := k52.M wb base (fun k => some k ≠ (Value.slice Aa l0.length ca).ownBlock)) (fun x cs hx => Kd.M_below hx hbb) hS0
      have hv0lt : ∀ k, (Value.slice Aa l0.length ca).ownBlock = some k → k < wx.heap.size := Kd.R_lt HG.out.r0
      have hv1lt : ∀ k, v1.ownBlock = some k → k < wx.heap.size := Kd.S_lt HG.out.r1
      refine Kd.S_append_step (w0 := wb) (Kd.slice 52 (kz (k52.M wb base (fun k => some k ≠ (Value.slice Aa l0.length ca).ownBlock)))) V.heap.size (by rfl) (.tmp 21) (.tmp 29) 28 48 (.slice none 0 0) 24 (by rfl) Tryd.underlying28 (by kernel_rfl) (by rfl) (show (0 : Nat) < 1 by decide) (by decide) v1 L x [.slice Ab x.length cb'] (fun k => some k ≠ (Value.slice Aa l0.length ca).ownBlock) (fun k => wx.heap.size ≤ k) (by rfl) (by first | rfl | (go_simp; done) | (simp; done)) ⟨_, rfl, Kd.yq hrz (z7 HG.out.K)⟩ (fun k hk => ⟨fun e => by have := hv0lt k e.symm; omega, fun e => by have := hv1lt k e.symm; omega⟩) (fun k hk e => by have := hv0lt k e.symm; have := hbb.size; omega) hS1 (Below.refl _ _) (Nat.le_trans (z7 HG.out.K) hbb.size) (by have h1 := hj.out; have h2 := hok.out.2.1; have h3 : L.length ≤ l1.length := (by rw [h1.2.2, List.length_take]; exact Nat.min_le_right _ _); omega) ?_
      intro va wc hra hba hga hata
      obtain ⟨Ac, cc2, hva⟩ := Kd.S_slice hra
      subst hva
      have HA := za.mk (BG.push1 hHB hra hba hga)
      have hbA := BG.grow1 hHB hga
      have hcA : wc.cell? ⟨D, 1, none⟩ = some v1 := (zf hbA 1).trans rfl
      have hfA : wc.frozen? ⟨D, 1, none⟩ = false := zg hbA 1
      have hv1ge : ∀ k, v1.ownBlock = some k → V.heap.size ≤ k := Kd.S_base HG.out.r1
      refine hK.out _ _ ⟨(cell_g hga (zA hbb hq0) (fun e => by have h1 := hv1ge _ e.symm; have h2 := hVs.out; have h3 : w.heap.size = (⟨w.heap.size, 1, none⟩ : Addr).block := rfl; omega)), hcA, (cell_g hga (zA hbb hq2) (fun e => by have h1 := hv1ge _ e.symm; have h2 := hPV.out; have h3 : P = (⟨P, j.toNat, none⟩ : Addr).block := rfl; omega))⟩ (fun hHeld => ?_)
      clear hK K
      refine zQ (a' := ?_) ?_ ?_
      rotate_left
      · show Act.put _ (some 30) _ = _
        simp only [Act.put, List.setIfInBounds_toArray, List.set_cons_zero, List.set_cons_succ, zn, zo]
        rfl
      refine zF (i := 11) (N := some 31) (v := ?_) (a' := ?_) #[true, true, true, true, true, true, true, true, true, true, true, true, false] rfl rfl (by kernel_rfl) (fun _ _ _ h => h) (Or.inl ⟨by rfl, ?_⟩) ?_ ?_
      rotate_left
      · intro w'
        go_simp
        with_reducible rfl
      rotate_left
      · simp only [Act.put, List.setIfInBounds_toArray, List.set_cons_zero, List.set_cons_succ, zn, zo]
        rfl
      refine last_ (i := 12) (N := none) #[true, true, true, true, true, true, true, true, true, true, true, true, true] rfl rfl (by kernel_rfl) (by decide) (fun K hK => ?_)
      refine skip_ (w1 := ?_) (by rfl) rfl ?_ ?_
      rotate_left
      · go_simp
        rfl
      refine hK.out _ _ ?_
      clear hK K
      refine xA (by kernel_rfl) ?_
      have hL := take_snoc hj.out.2.2 hx.out hjp hjl
      clear hcA hfA hbA hq0 hq1 hq2 hRu hpR hu hrb hrz hS0 hS1 hra hba hga hata hv0lt hv1lt hv1ge hHB hpz HG hbb
      go_wp2
      go_roundg m
      case measure => exact Nat.lt_succ_self _
      case rel => exact ⟨j + 1, L ++ [x], .slice Ac (L.length + 1) cc2, by first | rfl | (simp [ej]; done), ⟨by have h1 := hj.out; omega, by omega, hL⟩, by have h := HA.out; simp only [List.length_append, List.length_cons, List.length_nil, Nat.zero_add] at h; exact ⟨h⟩⟩
section
variable {w0 w wx : World} {g R : Nat} {b : List Int} {p : Int} {v0 v1 x0 x1 : Value} {l0 : List Int} {l1 : List (List S52)}
theorem adone (hI : ze w0 wx g b p) (hB : Below w0.heap.size w0 wx) (hK : zk w wx g none) (q0 : Kd.R (Kd.int .i64) 3 wx R (fun _ => True) v0 l0) (q1 : Kd.R (Kd.slice 52 k52) 48 wx R (fun k => some k ≠ v0.ownBlock) v1 l1)
    (hb : wx.heap[R]? = some (.cells #[x0, x1] 30 (0, 0))) (hw : w.heap.size = R) (hg : g ≠ R) (hR : w0.heap.size ≤ R) :
    ((wx.setCell ⟨R, 0, none⟩ v0).setCell ⟨R, 1, none⟩ v1).heap[R]? = some (.cells #[v0, v1] 30 (0, 0)) ∧ Kd.R (Kd.int .i64) 3 ((wx.setCell ⟨R, 0, none⟩ v0).setCell ⟨R, 1, none⟩ v1) R (fun _ => True) v0 l0 ∧ Kd.R (Kd.slice 52 k52) 48 ((wx.setCell ⟨R, 0, none⟩ v0).setCell ⟨R, 1, none⟩ v1) R (fun k => some k ≠ v0.ownBlock) v1 l1 ∧ ze w0 ((wx.setCell ⟨R, 0, none⟩ v0).setCell ⟨R, 1, none⟩ v1) g b p ∧ Below w0.heap.size w0 ((wx.setCell ⟨R, 0, none⟩ v0).setCell ⟨R, 1, none⟩ v1) ∧ zk w ((wx.setCell ⟨R, 0, none⟩ v0).setCell ⟨R, 1, none⟩ v1) g none := by
  have hb1 := yT hb 0 v0
  have hb2 := yT hb1 1 v1
  exact ⟨hb2, Kd.xH (Kd.xH q0 hb (by decide) 0 v0) hb1 (by decide) 1 v1, Kd.xH (Kd.xH q1 hb (by decide) 0 v0) hb1 (by decide) 1 v1, (hI.far (p := ⟨R, 0, none⟩) (fun e => hg e) _).far (p := ⟨R, 1, none⟩) (fun e => hg e) _, zh (zh hB hR) hR,
    xl (xl hK (by omega) 0 v0) (by omega) 1 v1⟩
end
end Go.Proofs.YtoeepmcaabmjkaaDoor.QPO
namespace Go.Proofs.YtoeepmcaabmjkaaDoor.QPO
open Go.RowKit Go.Proofs.YtoeepmcaabmjkaaDoorW.PrintWords Go.Proofs.YtoeepmcaabmjkaaDoorW.PrintLast Go.Proofs.YtoeepmcaabmjkaaDoorW.PrintMore
attribute [local go_sem] yz yx yQ yP yl yk yy yw   -- for this text's walks alone
set_option linter.unusedVariables false
set_option linter.unusedSimpArgs false
def xv.f (k : Nat) (s0_0 : List Int) (s0_1 : Int) : Option (List Int × (List (List (S52))) × Int) := (xx.f k s0_0 s0_1).bind fun x => (zi.f k s0_0 x.2.2 14).bind fun y => if y.1 = 0 then (xn.f k s0_0 y.2 x.1 x.2.1).bind fun z => some (z.1, z.2.1, z.2.2) else some (x.1, x.2.1, y.2)
set_option maxHeartbeats 8000000 in
set_option maxRecDepth 100000 in
theorem xv.calls (k : Nat) (g : Nat) (s0_0 : List Int) (s0_1 : Int) (r1 : List Int) (r2 : List (List S52)) (r3 : Int) (w0 w : World) (hI : ze w0 w g s0_0 s0_1) (hB : Below w0.heap.size w0 w) (h : xv.f k s0_0 s0_1 = some (r1, r2, r3)) :
    Calls Tryd.prog 31 #[.pointer (some ⟨g, 0, none⟩)] w fun e w' => ∃ v0_ v1_ : Value, e = .returned (.agg #[v0_, v1_]) ∧ Kd.R (Kd.int .i64) 3 w' w.heap.size (fun _ => True) v0_ r1 ∧ Kd.R (Kd.slice 52 k52) 48 w' w.heap.size (fun k_ => some k_ ≠ (v0_ : Value).ownBlock) v1_ r2 ∧ ze w0 w' g s0_0 r3 ∧ Below w0.heap.size w0 w' ∧ zk w w' g none := by
  have hu36 := Tryd.underlying30
  have H := (show ((xx.f k s0_0 s0_1).bind fun x => (zi.f k s0_0 x.2.2 14).bind fun y => if y.1 = 0 then (xn.f k s0_0 y.2 x.1 x.2.1).bind fun z => some (z.1, z.2.1, z.2.2) else some (x.1, x.2.1, y.2)) = some (r1, r2, r3) from h)
  clear h
  replace H := Option.bind_eq_some_iff.mp H
  obtain ⟨⟨t0, t1, p1⟩, A1, H⟩ := H
  replace H := Option.bind_eq_some_iff.mp H
  obtain ⟨⟨d, p2⟩, A2, H⟩ := H
  have A2 := za.mk (show zi.f k s0_0 p1 14 = some (d, p2) from A2)
  replace A1 := za.mk A1
  replace H := za.mk H
  have HI := za.mk hI
  have HB := za.mk hB
  clear hI hB
  go_enter Tryd.func31, Tryd.ntmps31
  go_wp2_with (fail)
  refine (xx.calls k g s0_0 s0_1 t0 t1 p1 w0 _ (HI.out.alloc _) (zc HB.out _) A1.out).mono ?_
  rintro e w1 ⟨v0, v1, rfl, hr0, hr1, hi1, hb1, hk1⟩
  obtain ⟨B0, d0, hv0⟩ := Kd.yn hr0
  subst hv0
  obtain ⟨B1, d1, hv1⟩ := Kd.yn hr1
  subst hv1
  have hgR : g ≠ w.heap.size := Nat.ne_of_lt (ze.lt HI.out)
  have hR1 : w1.heap[w.heap.size]? = some (.cells #[.slice none 0 0, .slice none 0 0] 30 (0, 0)) := hk1.blk (heap_alloc_new _ _) (fun e => (Nat.ne_of_lt (ze.lt HI.out)) e.symm) (by simp)
  have hkw : zk w w1 g none := (zt (zk.refl _ _ _) _).trans hk1 (.inl rfl)
  have hr0 := za.mk (Kd.yq (base' := w.heap.size) hr0 (by first | (simp; done) | exact hsz.out))
  have hr1 := za.mk (Kd.yq (base' := w.heap.size) hr1 (by first | (simp; done) | exact hsz.out))
  replace hgR := za.mk hgR
  replace hR1 := za.mk hR1
  replace hkw := za.mk hkw
  replace hi1 := za.mk hi1
  replace hb1 := za.mk hb1
  clear hk1
  go_wp2_with (fail)
  refine (zi.calls k g s0_0 p1 14 d p2 w0 _ (hi1.out.alloc _) (zc hb1.out _) A2.out).mono ?_
  rintro e w2 ⟨rfl, hi2, hb2, hk2⟩
  have hD2 : w2.heap[w1.heap.size]? = some (.cells #[.slice B0 t0.length d0, .slice B1 t1.length d1] 30 (0, 0)) := hk2.blk (heap_alloc_new _ _) (Nat.ne_of_gt (ze.lt hi1.out)) (by simp)
  have hR2 := za.mk (hk2.blk (zj hR1.out _) (fun e => hgR.out e.symm) (by simp))
  have q0 := za.mk (Kd.zZ (ok' := fun _ => True) (Kd.R_keep (ze.apart (hi1.out.alloc _) (Kd.zE hr0.out _) (by decide)) hk2 (fun _ hk => hk.2)) (fun _ _ => trivial))
  have q1 := za.mk (Kd.zZ (ok' := fun k => some k ≠ (Value.slice B0 t0.length d0).ownBlock) (Kd.R_keep (ze.apart (hi1.out.alloc _) (Kd.zE hr1.out _) (by decide)) hk2 (fun _ hk => hk.2)) (fun _ hk => hk.1))
  have hk2w := za.mk ((zt hkw.out _).trans hk2 (.inl rfl))
  replace hi2 := za.mk hi2
  replace hb2 := za.mk hb2
  have hc0 : w2.cell? ⟨w1.heap.size, 0, none⟩ = some (.slice B0 t0.length d0) := (zf hD2 0).trans rfl
  have hc1 : w2.cell? ⟨w1.heap.size, 1, none⟩ = some (.slice B1 t1.length d1) := (zf hD2 1).trans rfl
  clear hk2 hD2 hr0 hr1 hi1 hb1 hkw hR1
  by_cases cd : d = 0
  · have H := H.out
    rw [if_pos cd] at H
    replace cd : (d == 0) = true := beq_iff_eq.mpr cd
    replace H := Option.bind_eq_some_iff.mp H
    obtain ⟨⟨z0, z1, p3⟩, A3, H⟩ := H
    have A3 := za.mk (show xn.f k s0_0 p2 t0 t1 = some (z0, z1, p3) from A3)
    simp only [Option.some.injEq, Prod.mk.injEq] at H
    obtain ⟨hh1, hh2, hh3⟩ := H
    subst hh1 hh2 hh3
    go_wp2_with (fail)
    refine (xn.calls k g s0_0 p2 B0 d0 t0 B1 d1 t1 z0 z1 p3 w.heap.size w0 _ hi2.out hb2.out (z7 hk2w.out) q0.out (Kd.zZ q1.out (fun _ _ => trivial)) A3.out).mono ?_
    rintro e w3 ⟨v2, v3, rfl, hs0, hs1, hi3, hb3, hk3⟩
    obtain ⟨E0, e0, hv2⟩ := Kd.yn hs0
    subst hv2
    obtain ⟨E1, e1, hv3⟩ := Kd.yn hs1
    subst hv3
    have hRx := hk3.blk hR2.out (fun e => hgR.out e.symm) (by simp)
    have hDn := za.mk (adone hi3 hb3 (hk2w.out.trans hk3 (.inl rfl)) hs0 hs1 hRx rfl hgR.out HB.out.size)
    clear hs0 hs1 hi3 hb3 hk3 hc0 hc1 q0 q1 hi2 hb2
    have hS := yT hRx 0 (.slice E0 z0.length e0)
    have hd0 : w3.cell? ⟨w.heap.size, 0, none⟩ = some (.slice none 0 0) := (zf hRx 0).trans rfl
    have hf0 : w3.frozen? ⟨w.heap.size, 0, none⟩ = false := zg hRx 0
    have hd1 : (w3.setCell ⟨w.heap.size, 0, none⟩ (.slice E0 z0.length e0)).cell? ⟨w.heap.size, 1, none⟩ = some (.slice none 0 0) := (zf hS 1).trans rfl
    have hf1 : (w3.setCell ⟨w.heap.size, 0, none⟩ (.slice E0 z0.length e0)).frozen? ⟨w.heap.size, 1, none⟩ = false := zg hS 1
    clear hS hRx
    go_wp2_with (fail)
    exact bodyPost_ret (results_cell_row rfl _ _ w.heap.size 30 _ (0, 0) _ rfl hDn.out.1 Tryd.underlying30 rfl (show (Tryd.prog.info? 30).map (·.size) = some 2 by kernel_rfl)) rfl ⟨_, _, rfl, hDn.out.2⟩
  · have H := H.out
    rw [if_neg cd] at H
    replace cd : (d == 0) = false := beq_eq_false_iff_ne.mpr cd
    simp only [Option.some.injEq, Prod.mk.injEq] at H
    obtain ⟨hh1, hh2, hh3⟩ := H
    subst hh1 hh2 hh3
    have hRx := hR2.out
    have hDn := za.mk (adone hi2.out hb2.out hk2w.out q0.out q1.out hRx rfl hgR.out HB.out.size)
    clear q0 q1 hi2 hb2
    have hS := yT hRx 0 (.slice B0 t0.length d0)
    have hd0 : w2.cell? ⟨w.heap.size, 0, none⟩ = some (.slice none 0 0) := (zf hRx 0).trans rfl
    have hf0 : w2.frozen? ⟨w.heap.size, 0, none⟩ = false := zg hRx 0
    have hd1 : (w2.setCell ⟨w.heap.size, 0, none⟩ (.slice B0 t0.length d0)).cell? ⟨w.heap.size, 1, none⟩ = some (.slice none 0 0) := (zf hS 1).trans rfl
    have hf1 : (w2.setCell ⟨w.heap.size, 0, none⟩ (.slice B0 t0.length d0)).frozen? ⟨w.heap.size, 1, none⟩ = false := zg hS 1
    clear hS hRx
    go_wp2_with (fail)
    exact bodyPost_ret (results_cell_row rfl _ _ w.heap.size 30 _ (0, 0) _ rfl hDn.out.1 Tryd.underlying30 rfl (show (Tryd.prog.info? 30).map (·.size) = some 2 by kernel_rfl)) rfl ⟨_, _, rfl, hDn.out.2⟩
def xD.f (l0 : List Int) : Option (List Int × Int) := if (l0.length : Int) > 2000 then (if 2000 ≤ (l0.length : Int) then (some (l0.take 2000, 0)) else (none)) else (some (l0, 0))
set_option maxHeartbeats 8000000 in
set_option maxRecDepth 100000 in
theorem xD.calls (A0 : Option Addr) (c0 : Nat) (l0 : List Int) (r1 : List Int) (r2 : Int) (w0 w : World) (hB : Below w0.heap.size w0 w) (hr0 : Kd.C (Kd.int .u8) w0 A0 l0.length l0) (hc0 : l0.length ≤ c0) (h : xD.f l0 = some (r1, r2)) :
    Calls Tryd.prog 32 #[.slice A0 l0.length c0] w fun e w' => ∃ g_ : Nat, e = .returned (.pointer (some ⟨g_, 0, none⟩)) ∧ ze w0 w' g_ r1 r2 ∧ Below w0.heap.size w0 w' ∧ Below w.heap.size w w' := by
  have hu102 := Tryd.underlying102
  have HR0 := za.mk hr0
  have HC0 := za.mk hc0
  clear hr0 hc0
  have HBW := za.mk (Below.refl w.heap.size w)
  have HW0 := za.mk hB.size
  have HB := za.mk hB
  clear hB
  have H : (if (l0.length : Int) > 2000 then (if 2000 ≤ (l0.length : Int) then (some (l0.take 2000, 0)) else (none)) else (some (l0, 0))) = some (r1, r2) := h
  clear h
  by_cases c2 : (l0.length : Int) > 2000
  · rw [if_pos c2] at H
    have c2b0 : decide (2000 < (l0.length : Int)) = true := decide_eq_true c2
    have c2b1 : decide (2000 < l0.length) = true := decide_eq_true (by omega)
    clear c2
    by_cases c3 : 2000 ≤ (l0.length : Int)
    · rw [if_pos c3] at H
      have c3b0 := eq_true c3
      have c3b1 : decide (2000 ≤ (l0.length : Int)) = true := decide_eq_true c3
      clear c3
      simp only [Option.some.injEq, Prod.mk.injEq] at H
      obtain ⟨rfl, rfl⟩ := H
      obtain ⟨i04, hi04, _, hsz4, _⟩ := info_parts info5
      obtain ⟨hcut4, hA4, hC4⟩ := print_take_of (P := Tryd.prog) (Value.int .u8) 0 34 5 .i64 Tryd.underlying34 hi04 hsz4 A0 c0 l0 2000 (by omega) (of_decide_eq_true (by first | (with_reducible assumption) | assumption)) HC0.out
      have HR286 := za.mk (Kd.C_of_reads (h1 := fun _ => rfl) (hA4 _ (Kd.reads_of_C HR0.out)))
      have HC286 := za.mk hC4
      clear hA4 hC4 hi04 hsz4
      go_enter Tryd.func32, Tryd.ntmps32
      go_wp2_with (first | ((with_reducible refine zY (N := 10) rfl ?_); refine ye ?hg (N := 10) ?hd (cs := #[.slice A0 (l0.take 2000).length c0, .int .i64 0]) (t := 102) ?hr ?_; (case hd => rfl); (case hg => rfl); (case hr => first | (go_simp; done) | (go_simp; rfl)); intro gb287 hg w5 hbox hb; have n0_ := za.mk (zp HBW.out hb); have n1_ := za.mk (zp (by repeat (with_reducible first | exact HB.out | apply zc | apply zb | apply zd)) hb); have n2_ := za.mk (hbox); have n3_ := za.mk ((by rw [hg]; exact (zy (by repeat (with_reducible first | exact HBW.out | apply zc | apply zb | apply zd))) : w.heap.size ≤ gb287)); have n4_ := za.mk ((Nat.le_trans HW0.out (by rw [hg]; exact (zy (by repeat (with_reducible first | exact HBW.out | apply zc | apply zb | apply zd))) : w.heap.size ≤ gb287) : w0.heap.size ≤ gb287)); clear HBW; clear HB; have HBW := n0_; have HB := n1_; have BK287 := n2_; have GW287 := n3_; have GE287 := n4_; clear n0_ n1_ n2_ n3_ n4_; clear hb hbox hg))
      go_ret
      exact ⟨_, rfl, (show ze w0 _ gb287 (l0.take 2000) 0 from ⟨_, _, by (with_reducible repeat (first | refine zl ?_ _ | refine zm ?_ | refine zj ?_ _)); exact BK287.out, GE287.out, HR286.out⟩), by repeat (with_reducible first | exact HB.out | apply zc | apply zb | apply zd | refine zh ?_ GE287.out), by repeat (with_reducible first | exact HBW.out | apply zc | apply zb | apply zd | refine zh ?_ GW287.out)⟩
    · rw [if_neg c3] at H
      exact absurd H (by simp)
  · rw [if_neg c2] at H
    have c2b0 : decide (2000 < (l0.length : Int)) = false := decide_eq_false c2
    have c2b1 : decide (2000 < l0.length) = false := decide_eq_false (by omega)
    clear c2
    simp only [Option.some.injEq, Prod.mk.injEq] at H
    obtain ⟨rfl, rfl⟩ := H
    go_enter Tryd.func32, Tryd.ntmps32
    go_wp2_with (first | ((with_reducible refine zY (N := 10) rfl ?_); refine ye ?hg (N := 10) ?hd (cs := #[.slice A0 l0.length c0, .int .i64 0]) (t := 102) ?hr ?_; (case hd => rfl); (case hg => rfl); (case hr => first | (go_simp; done) | (go_simp; rfl)); intro gb288 hg w6 hbox hb; have n0_ := za.mk (zp HBW.out hb); have n1_ := za.mk (zp (by repeat (with_reducible first | exact HB.out | apply zc | apply zb | apply zd)) hb); have n2_ := za.mk (hbox); have n3_ := za.mk ((by rw [hg]; exact (zy (by repeat (with_reducible first | exact HBW.out | apply zc | apply zb | apply zd))) : w.heap.size ≤ gb288)); have n4_ := za.mk ((Nat.le_trans HW0.out (by rw [hg]; exact (zy (by repeat (with_reducible first | exact HBW.out | apply zc | apply zb | apply zd))) : w.heap.size ≤ gb288) : w0.heap.size ≤ gb288)); clear HBW; clear HB; have HBW := n0_; have HB := n1_; have BK288 := n2_; have GW288 := n3_; have GE288 := n4_; clear n0_ n1_ n2_ n3_ n4_; clear hb hbox hg))
    go_ret
    exact ⟨_, rfl, (show ze w0 _ gb288 l0 0 from ⟨_, _, by (with_reducible repeat (first | refine zl ?_ _ | refine zm ?_ | refine zj ?_ _)); exact BK288.out, GE288.out, HR0.out⟩), by repeat (with_reducible first | exact HB.out | apply zc | apply zb | apply zd | refine zh ?_ GE288.out), by repeat (with_reducible first | exact HBW.out | apply zc | apply zb | apply zd | refine zh ?_ GW288.out)⟩
def yB.f (k : Nat) (l0 : List Int) : Option (List Int × (List (List (S52)))) := (xD.f l0).bind fun bt290 => ((xv.f k bt290.1 bt290.2).bind fun bt293 => (some (bt293.1, bt293.2.1)))
set_option maxHeartbeats 8000000 in
set_option maxRecDepth 100000 in
theorem yB.calls (k : Nat) (A0 : Option Addr) (c0 : Nat) (l0 : List Int) (r1 : List Int) (r2 : List (List (S52))) (w : World) (hr0 : Kd.C (Kd.int .u8) w A0 l0.length l0) (hc0 : l0.length ≤ c0) (h : yB.f k l0 = some (r1, r2)) :
    Calls Tryd.prog 11 #[.slice A0 l0.length c0] w fun e w' => ∃ v0_ v1_ : Value, e = .returned (.agg #[v0_, v1_]) ∧ Kd.R (Kd.int .i64) 3 w' w.heap.size (fun _ => True) v0_ r1 ∧ Kd.R (Kd.slice 52 k52) 48 w' w.heap.size (fun k_ => some k_ ≠ (v0_ : Value).ownBlock) v1_ r2 ∧ Below w.heap.size w w' := by
  have hu30 := Tryd.underlying30
  have HR0 := za.mk hr0
  have HC0 := za.mk hc0
  clear hr0 hc0
  have HB := za.mk (Below.refl w.heap.size w)
  have H : ((xD.f l0).bind fun bt290 => ((xv.f k bt290.1 bt290.2).bind fun bt293 => (some (bt293.1, bt293.2.1)))) = some (r1, r2) := h
  clear h
  replace H := Option.bind_eq_some_iff.mp H
  obtain ⟨⟨t290, t291⟩, A20, H⟩ := H
  replace H : ((xv.f k t290 t291).bind fun bt293 => (some (bt293.1, bt293.2.1))) = some (r1, r2) := H
  have A2 := za.mk A20
  clear A20
  replace H := Option.bind_eq_some_iff.mp H
  obtain ⟨⟨t293, t296, t299⟩, A30, H⟩ := H
  replace H : (some (t293, t296)) = some (r1, r2) := H
  have A3 := za.mk A30
  clear A30
  simp only [Option.some.injEq, Prod.mk.injEq] at H
  obtain ⟨rfl, rfl⟩ := H
  go_enter Tryd.func11, Tryd.ntmps11
  go_wp2_with (first | ((with_reducible refine zY (N := 2) rfl ?_); refine ye ?hg (N := 2) ?hd (cs := #[.slice none 0 0, .slice none 0 0]) (t := 30) ?hr ?_; (case hd => rfl); (case hg => rfl); (case hr => first | (go_simp; done) | (go_simp; rfl)); intro gb289 hg w4 hbox hb; have n0_ := za.mk (zp (by repeat (with_reducible first | exact HB.out | apply zc | apply zb | apply zd)) hb); have n1_ := za.mk (hbox); have n2_ := za.mk ((by rw [hg]; exact (zy (by repeat (with_reducible first | exact HB.out | apply zc | apply zb | apply zd))) : w.heap.size ≤ gb289)); have n3_ := za.mk ((by rw [hg]; exact (zy (by repeat (with_reducible first | exact HB.out | apply zc | apply zb | apply zd))) : w.heap.size ≤ gb289)); clear HB; have HB := n0_; have BK289 := n1_; have GW289 := n2_; have GE289 := n3_; clear n0_ n1_ n2_ n3_; clear hb hbox hg) | ((with_reducible refine zx (f := 32) rfl ?_); refine z6 (some 4) rfl rfl Tryd.func32 (by kernel_rfl) rfl #[.slice A0 l0.length c0] rfl (by (try simp only [List.map_toArray, List.map_cons, List.map_nil]); first | done | rfl | (simp only [List.length_drop, List.length_take]; rfl)) ?_; (with_reducible refine (xD.calls _ _ l0 t290 t291 w _ ?side1 ?side2 ?side3 A2.out).mono ?_); (case side1 => repeat (with_reducible first | exact HB.out | apply zc | apply zb | apply zd | refine zh ?_ GE289.out)); (case side2 => exact HR0.out); (case side3 => exact HC0.out); rintro e w5 ⟨g292, rfl, hi, hb, hb2⟩; refine ⟨_, rfl, ?_⟩; have n0_ := za.mk (zI (g := gb289) (o := .cells #[.slice none 0 0, .slice none 0 0] 30 (0, 0)) (by (with_reducible repeat (first | refine zl ?_ _ | refine zm ?_ | refine zj ?_ _)); exact BK289.out) hb2); have n1_ := za.mk (hb); have n2_ := za.mk (hi); have n3_ := za.mk (ze.ne_blk hi (zI (g := gb289) (o := .cells #[.slice none 0 0, .slice none 0 0] 30 (0, 0)) (by (with_reducible repeat (first | refine zl ?_ _ | refine zm ?_ | refine zj ?_ _)); exact BK289.out) hb2) (by decide)); have n4_ := za.mk (Ne.symm (ze.ne_blk hi (zI (g := gb289) (o := .cells #[.slice none 0 0, .slice none 0 0] 30 (0, 0)) (by (with_reducible repeat (first | refine zl ?_ _ | refine zm ?_ | refine zj ?_ _)); exact BK289.out) hb2) (by decide))); clear BK289; clear HB; have BK289 := n0_; have HB := n1_; have HI292 := n2_; have NB292_289 := n3_; have NB289_292 := n4_; clear n0_ n1_ n2_ n3_ n4_; (try clear hb); (try clear hb2); (try clear hk); (try clear hi)) | ((with_reducible refine zx (f := 31) rfl ?_); refine z6 (some 5) rfl rfl Tryd.func31 (by kernel_rfl) rfl #[.pointer (some ⟨g292, 0, none⟩)] rfl (by (try simp only [List.map_toArray, List.map_cons, List.map_nil]); first | done | rfl | (simp only [List.length_drop, List.length_take]; rfl)) ?_; (with_reducible refine (xv.calls k g292 t290 t291 t293 t296 t299 w _ ?side1 ?side2 A3.out).mono ?_); (case side1 => repeat (with_reducible first | exact HI292.out | apply ze.alloc | apply ze.drewN | apply ze.drew | apply ze.set_1 | refine ze.far ?_ NB292_289.out _)); (case side2 => repeat (with_reducible first | exact HB.out | apply zc | apply zb | apply zd | refine zh ?_ (ze.ge HI292.out) | refine zh ?_ GE289.out)); rintro e w6 ⟨v294, v297, rfl, ho0, ho1, hi, hb, hk⟩; refine ⟨_, rfl, ?_⟩; have n0_ := za.mk (zk.blk hk (g' := gb289) (o := .cells #[.slice none 0 0, .slice none 0 0] 30 (0, 0)) (by (with_reducible repeat (first | refine zl ?_ _ | refine zm ?_ | refine zj ?_ _)); exact BK289.out) NB289_292.out (by simp)); have n1_ := za.mk (Kd.yq ho0 (zy (by repeat (with_reducible first | exact HB.out | apply zc | apply zb | apply zd | refine zh ?_ (ze.ge HI292.out) | refine zh ?_ GE289.out)))); have n2_ := za.mk (Kd.yq ho1 (zy (by repeat (with_reducible first | exact HB.out | apply zc | apply zb | apply zd | refine zh ?_ (ze.ge HI292.out) | refine zh ?_ GE289.out)))); have n3_ := za.mk (hb); have n4_ := za.mk (hi); clear BK289; clear HB; clear HI292; have BK289 := n0_; have HO295 := n1_; have HO298 := n2_; have HB := n3_; have HI292 := n4_; clear n0_ n1_ n2_ n3_ n4_; (try clear hb); (try clear hb2); (try clear hk); (try clear hi); (try clear ho0); (try clear ho1); obtain ⟨Ao7, co7, eo7⟩ := Kd.yn HO295.out; subst eo7; have hnb8 := NB289_292.out; have hnc8 := NB292_289.out; have hcz9_0 : w6.cell? ⟨gb289, 0, none⟩ = some (.slice none 0 0) := (zf BK289.out 0).trans rfl; have hcz9_1 : w6.cell? ⟨gb289, 1, none⟩ = some (.slice none 0 0) := (zf BK289.out 1).trans rfl; have hfz9_0 := zg BK289.out 0; have hfz9_1 := zg BK289.out 1; obtain ⟨Ao10, co10, eo10⟩ := Kd.yn HO298.out; subst eo10))
  refine bodyPost_ret (results_cell_row rfl _ _ gb289 30 #[.slice Ao7 t293.length co7, .slice Ao10 t296.length co10] (0, 0) _ rfl (by (with_reducible repeat (first | refine zl ?_ _ | refine zm ?_ | refine zj ?_ _)); refine yH (cs := #[.slice Ao7 t293.length co7, .slice none 0 0]) ?_ 1 _ rfl; (with_reducible repeat (first | refine zl ?_ _ | refine zm ?_ | refine zj ?_ _)); refine yH (cs := #[.slice none 0 0, .slice none 0 0]) ?_ 0 _ rfl; (with_reducible repeat (first | refine zl ?_ _ | refine zm ?_ | refine zj ?_ _)); exact BK289.out) Tryd.underlying30 rfl (by kernel_rfl)) rfl ?_
  exact ⟨_, _, by first | rfl | (simp [zr, zq] <;> rfl) | (simp [*, zr, zq] <;> rfl), by (with_reducible repeat (first | apply Kd.zE | apply Kd.zG | apply Kd.zT)); exact Kd.zZ (Kd.xq (p := ⟨gb289, 1, none⟩) (Kd.xq (p := ⟨gb289, 0, none⟩) (Kd.y6 HO295.out BK289.out (by decide)) (fun _ hk => hk.2) (.slice Ao7 t293.length co7)) (fun _ hk => hk.2) (.slice Ao10 t296.length co10)) (fun _ hk => trivial), by (with_reducible repeat (first | apply Kd.zE | apply Kd.zG | apply Kd.zT)); exact Kd.zZ (Kd.xq (p := ⟨gb289, 1, none⟩) (Kd.xq (p := ⟨gb289, 0, none⟩) (Kd.y6 HO298.out BK289.out (by decide)) (fun _ hk => hk.2) (.slice Ao7 t293.length co7)) (fun _ hk => hk.2) (.slice Ao10 t296.length co10)) (fun _ hk => hk.1), by repeat (with_reducible first | exact HB.out | apply zc | apply zb | apply zd | refine zh ?_ (ze.ge HI292.out) | refine zh ?_ GE289.out)⟩
def yv.l0 : Nat → List Int → List Int → Int → Option (Bool)
  | 0, _, _, _ => none
  | k + 1, x0, x1, x5 => if x5 < (x0.length : Int) then (if 0 ≤ x5 then (if x5 < (x1.length : Int) then (if (rd x0 x5) = (rd x1 x5) then (yv.l0 k x0 x1 (wrap64 (x5 + 1))) else (some false)) else (none)) else (none)) else (some true)
def yv.f (k : Nat) (l0 : List Int) (l1 : List Int) : Option (Bool) := if (l0.length : Int) = (l1.length : Int) then (yv.l0 k l0 l1 0) else (some false)
set_option maxHeartbeats 8000000 in
set_option maxRecDepth 100000 in
theorem yv.calls (k : Nat) (A0 : Option Addr) (c0 : Nat) (l0 : List Int) (A1 : Option Addr) (c1 : Nat) (l1 : List Int) (r : Bool) (w : World) (hr0 : Kd.C (Kd.int .i64) w A0 l0.length l0) (hc0 : l0.length ≤ c0) (hr1 : Kd.C (Kd.int .i64) w A1 l1.length l1) (hc1 : l1.length ≤ c1) (h : yv.f k l0 l1 = some r) :
    Calls Tryd.prog 33 #[.slice A0 l0.length c0, .slice A1 l1.length c1] w fun e w' => e = .returned (.bool r) ∧ ya w w' := by
  have HR0 := za.mk hr0
  have HC0 := za.mk hc0
  clear hr0 hc0
  have HR1 := za.mk hr1
  have HC1 := za.mk hc1
  clear hr1 hc1
  have H : (if (l0.length : Int) = (l1.length : Int) then (yv.l0 k l0 l1 0) else (some false)) = some r := h
  clear h
  by_cases c3 : (l0.length : Int) = (l1.length : Int)
  · rw [if_pos c3] at H
    have c3b0 : ((l0.length : Int) == (l1.length : Int)) = true := beq_iff_eq.mpr c3
    have c3b1 : ((l0.length : Int) != (l1.length : Int)) = false := bne_eq_false_iff_eq.mpr c3
    have c3b2 : (l0.length == l1.length) = true := by first | simpa using c3 | (simp at c3 ⊢; omega)
    clear c3
    have H' := za.mk H
    clear H
    go_enter Tryd.func33, Tryd.ntmps33
    go_wp2
    repeat (go_quiet (fail); try go_wp2)
    go_loopg [5] k (fun kq v5 w' => ∃ (x5_1 : Int), v5 = .int .i64 x5_1 ∧ za (yv.l0 kq l0 l1 x5_1 = some r) ∧ za (kq ≤ k) ∧ ya w w')
    case atStart => exact ⟨(0), (by first | rfl | (simp; done) | (simp [*]; done)), H', ⟨Nat.le_refl _⟩, by repeat (first | exact ya.refl _ | apply ya.step)⟩
    case round =>
      clear H'
      try clear c1
      try clear p2
      try clear c3
      try clear c3b0
      try clear c3b1
      try clear c3b2
      obtain ⟨x5_1, rfl, HA, HK1, ⟨m1, rfl⟩⟩ := hrel
      cases gk with
      | zero => exact absurd HA.out (by simp [yv.l0])
      | succ k1 =>
        have H := HA.out
        clear HA
        simp only [yv.l0] at H
        by_cases c4 : x5_1 < (l0.length : Int)
        · rw [if_pos c4] at H
          have c4b0 : decide (x5_1 < (l0.length : Int)) = true := decide_eq_true c4
          clear c4
          by_cases c5 : 0 ≤ x5_1
          · rw [if_pos c5] at H
            have c5b0 : decide (0 ≤ x5_1) = true := decide_eq_true c5
            clear c5
            by_cases c6 : x5_1 < (l1.length : Int)
            · rw [if_pos c6] at H
              have c6b0 : decide (x5_1 < (l1.length : Int)) = true := decide_eq_true c6
              clear c6
              by_cases c7 : (rd l0 x5_1) = (rd l1 x5_1)
              · rw [if_pos c7] at H
                have c7b0 : ((rd l0 x5_1) == (rd l1 x5_1)) = true := beq_iff_eq.mpr c7
                have c7b1 : ((rd l0 x5_1) != (rd l1 x5_1)) = false := bne_eq_false_iff_eq.mpr c7
                clear c7
                have H' := za.mk H
                clear H
                have p300 : 0 ≤ (x5_1 : Int) := of_decide_eq_true (by first | (with_reducible assumption) | assumption)
                have q300 : x5_1 < (l0.length : Int) := of_decide_eq_true (by first | (with_reducible assumption) | assumption)
                obtain ⟨ad300, e300, hx300_0⟩ := Kd.xu HR0.out x5_1 p300 q300
                cases e300
                replace p300 := eq_true p300
                replace q300 := eq_true q300
                have p301 : 0 ≤ (x5_1 : Int) := of_decide_eq_true (by first | (with_reducible assumption) | assumption)
                have q301 : x5_1 < (l1.length : Int) := of_decide_eq_true (by first | (with_reducible assumption) | assumption)
                obtain ⟨ad301, e301, hx301_0⟩ := Kd.xu HR1.out x5_1 p301 q301
                cases e301
                replace p301 := eq_true p301
                replace q301 := eq_true q301
                go_wp2
                repeat (go_quiet (fail); try go_wp2)
                go_roundg k1
                case measure => have := HK1.out; omega
                case rel => exact ⟨(wrap64 (x5_1 + 1)), (by first | rfl | (simp; done) | (simp [*]; done)), H', ⟨by have := HK1.out; omega⟩, by repeat (first | exact ya.refl _ | apply ya.step)⟩
              · rw [if_neg c7] at H
                have c7b0 : ((rd l0 x5_1) == (rd l1 x5_1)) = false := beq_eq_false_iff_ne.mpr c7
                have c7b1 : ((rd l0 x5_1) != (rd l1 x5_1)) = true := bne_iff_ne.mpr c7
                obtain rfl := Option.some.inj H
                have p300 : 0 ≤ (x5_1 : Int) := of_decide_eq_true (by first | (with_reducible assumption) | assumption)
                have q300 : x5_1 < (l0.length : Int) := of_decide_eq_true (by first | (with_reducible assumption) | assumption)
                obtain ⟨ad300, e300, hx300_0⟩ := Kd.xu HR0.out x5_1 p300 q300
                cases e300
                replace p300 := eq_true p300
                replace q300 := eq_true q300
                have p301 : 0 ≤ (x5_1 : Int) := of_decide_eq_true (by first | (with_reducible assumption) | assumption)
                have q301 : x5_1 < (l1.length : Int) := of_decide_eq_true (by first | (with_reducible assumption) | assumption)
                obtain ⟨ad301, e301, hx301_0⟩ := Kd.xu HR1.out x5_1 p301 q301
                cases e301
                replace p301 := eq_true p301
                replace q301 := eq_true q301
                go_wp2
                repeat (go_quiet (fail); try go_wp2)
                go_ret
                exact ⟨by first | rfl | (simp; done) | (simp [*]; done), by repeat (first | exact ya.refl _ | apply ya.step)⟩
            · rw [if_neg c6] at H
              exact absurd H (by simp)
          · rw [if_neg c5] at H
            exact absurd H (by simp)
        · rw [if_neg c4] at H
          have c4b0 : decide (x5_1 < (l0.length : Int)) = false := decide_eq_false c4
          clear c4
          obtain rfl := Option.some.inj H
          go_wp2
          repeat (go_quiet (fail); try go_wp2)
          go_ret
          exact ⟨by first | rfl | (simp; done) | (simp [*]; done), by repeat (first | exact ya.refl _ | apply ya.step)⟩
  · rw [if_neg c3] at H
    have c3b0 : ((l0.length : Int) == (l1.length : Int)) = false := beq_eq_false_iff_ne.mpr c3
    have c3b1 : ((l0.length : Int) != (l1.length : Int)) = true := bne_iff_ne.mpr c3
    have c3b2 : (l0.length == l1.length) = false := by first | simpa using c3 | (simp at c3 ⊢; omega)
    obtain rfl := Option.some.inj H
    go_enter Tryd.func33, Tryd.ntmps33
    go_wp2
    repeat (go_quiet (fail); try go_wp2)
    go_ret
    exact ⟨by first | rfl | (simp; done) | (simp [*]; done), by repeat (first | exact ya.refl _ | apply ya.step)⟩
end Go.Proofs.YtoeepmcaabmjkaaDoor.QPO
namespace Go.Proofs.YtoeepmcaabmjkaaDoor.QPO
open Go.RowKit Go.Proofs.YtoeepmcaabmjkaaDoorW.PrintWords Go.Proofs.YtoeepmcaabmjkaaDoorW.PrintLast Go.Proofs.YtoeepmcaabmjkaaDoorW.PrintMore
attribute [local go_sem] yz yx yQ yP yl yk yy yw   -- for this text's walks alone
set_option linter.unusedVariables false
set_option linter.unusedSimpArgs false
theorem eqA82 (d : Nat) (w : World) (x0 y0 : Int) (x1 y1 : Int) (x2 y2 : Int) :
    (Op.equalIn (d + 2) 82 (.agg #[.int .i64 x0, .int .i64 x1, .int .i64 x2]) (.agg #[.int .i64 y0, .int .i64 y1, .int .i64 y2])).run Tryd.prog w = .ok (x0 == y0 && (x1 == y1 && (x2 == y2))) w := by
  refine eqA_of Tryd.underlying82 (by kernel_rfl) ?_
  refine eqf_cons (by rfl) (by go_simp; rfl) (by go_simp; rfl) (by go_simp) ?_
  refine eqf_cons (by rfl) (by go_simp; rfl) (by go_simp; rfl) (by go_simp) ?_
  exact eqf_last (by rfl) (by go_simp; rfl) (by go_simp; rfl) (by go_simp)
end Go.Proofs.YtoeepmcaabmjkaaDoor.QPO
namespace Go.Proofs.YtoeepmcaabmjkaaDoor.QPO
open Go.RowKit Go.Proofs.YtoeepmcaabmjkaaDoorW.PrintWords Go.Proofs.YtoeepmcaabmjkaaDoorW.PrintLast Go.Proofs.YtoeepmcaabmjkaaDoorW.PrintMore
attribute [local go_sem] yz yx yQ yP yl yk yy yw   -- for this text's walks alone
set_option linter.unusedVariables false
set_option linter.unusedSimpArgs false
attribute [local go_sem high] eqA82
def yD.l0 : Nat → List (S82) → List (S82) → Int → Option (Bool)
  | 0, _, _, _ => none
  | k + 1, x0, x1, x5 => if x5 < (x0.length : Int) then (if 0 ≤ x5 then (if x5 < (x1.length : Int) then (if (!(((zP x0 x5).f0) == ((zP x1 x5).f0)) || (!(((zP x0 x5).f1) == ((zP x1 x5).f1)) || (!(((zP x0 x5).f2) == ((zP x1 x5).f2))))) = true then (some false) else (yD.l0 k x0 x1 (wrap64 (x5 + 1)))) else (none)) else (none)) else (some true)
def yD.f (k : Nat) (l0 : List (S82)) (l1 : List (S82)) : Option (Bool) := if (l0.length : Int) = (l1.length : Int) then (yD.l0 k l0 l1 0) else (some false)
set_option maxHeartbeats 8000000 in
set_option maxRecDepth 100000 in
theorem yD.calls (k : Nat) (A0 : Option Addr) (c0 : Nat) (l0 : List (S82)) (A1 : Option Addr) (c1 : Nat) (l1 : List (S82)) (r : Bool) (w : World) (hr0 : Kd.C k82 w A0 l0.length l0) (hc0 : l0.length ≤ c0) (hr1 : Kd.C k82 w A1 l1.length l1) (hc1 : l1.length ≤ c1) (h : yD.f k l0 l1 = some r) :
    Calls Tryd.prog 34 #[.slice A0 l0.length c0, .slice A1 l1.length c1] w fun e w' => e = .returned (.bool r) ∧ ya w w' := by
  have hu82 := Tryd.underlying82
  have HR0 := za.mk hr0
  have HC0 := za.mk hc0
  clear hr0 hc0
  have HR1 := za.mk hr1
  have HC1 := za.mk hc1
  clear hr1 hc1
  have H : (if (l0.length : Int) = (l1.length : Int) then (yD.l0 k l0 l1 0) else (some false)) = some r := h
  clear h
  by_cases c3 : (l0.length : Int) = (l1.length : Int)
  · rw [if_pos c3] at H
    have c3b0 : ((l0.length : Int) == (l1.length : Int)) = true := beq_iff_eq.mpr c3
    have c3b1 : ((l0.length : Int) != (l1.length : Int)) = false := bne_eq_false_iff_eq.mpr c3
    have c3b2 : (l0.length == l1.length) = true := by first | simpa using c3 | (simp at c3 ⊢; omega)
    clear c3
    have H' := za.mk H
    clear H
    go_enter Tryd.func34, Tryd.ntmps34
    go_wp2
    repeat (go_quiet (fail); try go_wp2)
    go_loopg [5] k (fun kq v5 w' => ∃ (x5_1 : Int), v5 = .int .i64 x5_1 ∧ za (yD.l0 kq l0 l1 x5_1 = some r) ∧ za (kq ≤ k) ∧ ya w w')
    case atStart => exact ⟨(0), (by first | rfl | (simp; done) | (simp [*]; done)), H', ⟨Nat.le_refl _⟩, by repeat (first | exact ya.refl _ | apply ya.step)⟩
    case round =>
      clear H'
      try clear c1
      try clear p2
      try clear c3
      try clear c3b0
      try clear c3b1
      try clear c3b2
      obtain ⟨x5_1, rfl, HA, HK1, ⟨m1, rfl⟩⟩ := hrel
      cases gk with
      | zero => exact absurd HA.out (by simp [yD.l0])
      | succ k1 =>
        have H := HA.out
        clear HA
        simp only [yD.l0] at H
        by_cases c4 : x5_1 < (l0.length : Int)
        · rw [if_pos c4] at H
          have c4b0 : decide (x5_1 < (l0.length : Int)) = true := decide_eq_true c4
          clear c4
          by_cases c5 : 0 ≤ x5_1
          · rw [if_pos c5] at H
            have c5b0 : decide (0 ≤ x5_1) = true := decide_eq_true c5
            clear c5
            by_cases c6 : x5_1 < (l1.length : Int)
            · rw [if_pos c6] at H
              have c6b0 : decide (x5_1 < (l1.length : Int)) = true := decide_eq_true c6
              clear c6
              by_cases c7 : (!(((zP l0 x5_1).f0) == ((zP l1 x5_1).f0)) || (!(((zP l0 x5_1).f1) == ((zP l1 x5_1).f1)) || (!(((zP l0 x5_1).f2) == ((zP l1 x5_1).f2))))) = true
              · rw [if_pos c7] at H
                have c7b0 : (!(((zP l0 x5_1).f0) == ((zP l1 x5_1).f0)) || (!(((zP l0 x5_1).f1) == ((zP l1 x5_1).f1)) || (!(((zP l0 x5_1).f2) == ((zP l1 x5_1).f2))))) = true := c7
                clear c7
                obtain rfl := Option.some.inj H
                have p302 : 0 ≤ (x5_1 : Int) := of_decide_eq_true (by first | (with_reducible assumption) | assumption)
                have q302 : x5_1 < (l0.length : Int) := of_decide_eq_true (by first | (with_reducible assumption) | assumption)
                obtain ⟨ad302, e302, hx302_0, hx302_1, hx302_2⟩ := at_T82 HR0.out x5_1 p302 q302
                cases e302
                replace p302 := eq_true p302
                replace q302 := eq_true q302
                have p303 : 0 ≤ (x5_1 : Int) := of_decide_eq_true (by first | (with_reducible assumption) | assumption)
                have q303 : x5_1 < (l1.length : Int) := of_decide_eq_true (by first | (with_reducible assumption) | assumption)
                obtain ⟨ad303, e303, hx303_0, hx303_1, hx303_2⟩ := at_T82 HR1.out x5_1 p303 q303
                cases e303
                replace p303 := eq_true p303
                replace q303 := eq_true q303
                go_wp2
                repeat (go_quiet (fail); try go_wp2)
                go_ret
                exact ⟨by first | rfl | (simp; done) | (simp [*]; done), by repeat (first | exact ya.refl _ | apply ya.step)⟩
              · rw [if_neg c7] at H
                have c7b0 : (!(((zP l0 x5_1).f0) == ((zP l1 x5_1).f0)) || (!(((zP l0 x5_1).f1) == ((zP l1 x5_1).f1)) || (!(((zP l0 x5_1).f2) == ((zP l1 x5_1).f2))))) = false := by simpa using c7
                clear c7
                have H' := za.mk H
                clear H
                have p302 : 0 ≤ (x5_1 : Int) := of_decide_eq_true (by first | (with_reducible assumption) | assumption)
                have q302 : x5_1 < (l0.length : Int) := of_decide_eq_true (by first | (with_reducible assumption) | assumption)
                obtain ⟨ad302, e302, hx302_0, hx302_1, hx302_2⟩ := at_T82 HR0.out x5_1 p302 q302
                cases e302
                replace p302 := eq_true p302
                replace q302 := eq_true q302
                have p303 : 0 ≤ (x5_1 : Int) := of_decide_eq_true (by first | (with_reducible assumption) | assumption)
                have q303 : x5_1 < (l1.length : Int) := of_decide_eq_true (by first | (with_reducible assumption) | assumption)
                obtain ⟨ad303, e303, hx303_0, hx303_1, hx303_2⟩ := at_T82 HR1.out x5_1 p303 q303
                cases e303
                replace p303 := eq_true p303
                replace q303 := eq_true q303
                go_wp2
                repeat (go_quiet (fail); try go_wp2)
                go_roundg k1
                case measure => have := HK1.out; omega
                case rel => exact ⟨(wrap64 (x5_1 + 1)), (by first | rfl | (simp; done) | (simp [*]; done)), H', ⟨by have := HK1.out; omega⟩, by repeat (first | exact ya.refl _ | apply ya.step)⟩
            · rw [if_neg c6] at H
              exact absurd H (by simp)
          · rw [if_neg c5] at H
            exact absurd H (by simp)
        · rw [if_neg c4] at H
          have c4b0 : decide (x5_1 < (l0.length : Int)) = false := decide_eq_false c4
          clear c4
          obtain rfl := Option.some.inj H
          go_wp2
          repeat (go_quiet (fail); try go_wp2)
          go_ret
          exact ⟨by first | rfl | (simp; done) | (simp [*]; done), by repeat (first | exact ya.refl _ | apply ya.step)⟩
  · rw [if_neg c3] at H
    have c3b0 : ((l0.length : Int) == (l1.length : Int)) = false := beq_eq_false_iff_ne.mpr c3
    have c3b1 : ((l0.length : Int) != (l1.length : Int)) = true := bne_iff_ne.mpr c3
    have c3b2 : (l0.length == l1.length) = false := by first | simpa using c3 | (simp at c3 ⊢; omega)
    obtain rfl := Option.some.inj H
    go_enter Tryd.func34, Tryd.ntmps34
    go_wp2
    repeat (go_quiet (fail); try go_wp2)
    go_ret
    exact ⟨by first | rfl | (simp; done) | (simp [*]; done), by repeat (first | exact ya.refl _ | apply ya.step)⟩
end Go.Proofs.YtoeepmcaabmjkaaDoor.QPO
namespace Go.Proofs.YtoeepmcaabmjkaaDoor.QPO
open Go.RowKit Go.Proofs.YtoeepmcaabmjkaaDoorW.PrintWords Go.Proofs.YtoeepmcaabmjkaaDoorW.PrintLast Go.Proofs.YtoeepmcaabmjkaaDoorW.PrintMore
attribute [local go_sem] yz yx yQ yP yl yk yy yw   -- for this text's walks alone
set_option linter.unusedVariables false
set_option linter.unusedSimpArgs false
theorem C_rowsQ {w : World} {A : Option Addr} {n : Nat} {xs : List (List S52)} (h : Kd.C (Kd.slice 52 k52) w A n xs) (i : Nat) (hi : i < n) : ∃ ad A1 c1 l, A = some ad ∧ xs[i]? = some l ∧ w.cell? (ad.add i) = some (.slice A1 l.length c1) ∧ l.length ≤ c1 ∧ Kd.C k52 w A1 l.length l := by
  have hn := h.1
  obtain ⟨ad, c, e, _, hK, hc0⟩ := Kd.C_get h [] (i : Int) (by omega) (by omega)
  obtain ⟨A1, c1, rfl, l1, g1⟩ := hK
  have hx : xs[i]? = some (xs.getD (i : Int).toNat []) := by
    rw [List.getD_eq_getElem?_getD, Int.toNat_natCast, List.getElem?_eq_getElem (show i < xs.length by omega)]
    rfl
  refine ⟨ad, A1, c1, _, e, hx, ?_, l1, g1⟩
  have := hc0 0 _ rfl
  rw [show (Kd.slice 52 k52).sz = 1 from rfl, Nat.mul_one, Nat.add_zero, Int.toNat_natCast] at this
  exact this
theorem alloc_atQ {W : World} {o : Obj} {b : Nat} (h : W.heap.size = b) : (W.alloc o).heap[b]? = some o := by subst h; exact heap_alloc_new W o
def lqA (k : Nat) (a b : S52) : Option Bool := if a.f0 = b.f0 then (if a.f3 = b.f3 then (yv.f k a.f2 b.f2).bind fun t => (if t = true then yD.f k a.f1 b.f1 else some false) else some false) else some false
def lqR (k : Nat) : List S52 → List S52 → Option Bool
  | a :: l, b :: m => (lqA k a b).bind fun t => if t = true then lqR k l m else some false
  | _, _ => some true
def lqB (k : Nat) : List (List S52) → List (List S52) → Option Bool
  | a :: l, b :: m => if a.length = b.length then (lqR k a b).bind fun t => (if t = true then lqB k l m else some false) else some false
  | _, _ => some true
def xw.f (k : Nat) (l0 : List Int) (l1 : List (List S52)) (m0 : List Int) (m1 : List (List S52)) : Option Bool :=
  (yv.f k l0 m0).bind fun t => if t = true then (if l1.length = m1.length then lqB k l1 m1 else some false) else some false
theorem lqB_nil (k : Nat) (m : List (List S52)) : lqB k [] m = some true := by cases m <;> rfl
theorem lqR_nil (k : Nat) (m : List S52) : lqR k [] m = some true := by cases m <;> rfl
theorem drop_at {α : Type} {l : List α} {x : α} {i : Nat} (h : l[i]? = some x) : l.drop i = x :: l.drop (i + 1) := by
  obtain ⟨hlt, rfl⟩ := List.getElem?_eq_some_iff.1 h
  exact List.drop_eq_getElem_cons hlt
theorem drop_rd {l : List S52} {y : Int} (h0 : 0 ≤ y) (h1 : y < l.length) : l.drop y.toNat = zM l y :: l.drop (y.toNat + 1) := by
  have hlt : y.toNat < l.length := by omega
  rw [List.drop_eq_getElem_cons hlt]
  simp [zM, List.getD, hlt]
theorem below_drawn {b : Nat} {w w' w'' : World} (h : Below b w w') (hd : ya w' w'') : Below b w w'' := by obtain ⟨nd, rfl⟩ := hd; exact zb h _
theorem heap_drawn {w' w'' : World} {i : Nat} {o : Obj} (h : w'.heap[i]? = some o) (hd : ya w' w'') : w''.heap[i]? = some o := by obtain ⟨nd, rfl⟩ := hd; exact h
set_option maxHeartbeats 8000000 in
set_option maxRecDepth 100000 in
theorem xw.calls (k : Nat) (A0_0 : Option Addr) (c0_0 : Nat) (l0_0 : List Int) (A0_1 : Option Addr) (c0_1 : Nat) (l0_1 : List (List (S52))) (A1_0 : Option Addr) (c1_0 : Nat) (l1_0 : List Int) (A1_1 : Option Addr) (c1_1 : Nat) (l1_1 : List (List (S52))) (r : Bool) (w : World) (hr0_0 : Kd.C (Kd.int .i64) w A0_0 l0_0.length l0_0) (hc0_0 : l0_0.length ≤ c0_0) (hr0_1 : Kd.C (Kd.slice 52 k52) w A0_1 l0_1.length l0_1) (hc0_1 : l0_1.length ≤ c0_1) (hr1_0 : Kd.C (Kd.int .i64) w A1_0 l1_0.length l1_0) (hc1_0 : l1_0.length ≤ c1_0) (hr1_1 : Kd.C (Kd.slice 52 k52) w A1_1 l1_1.length l1_1) (hc1_1 : l1_1.length ≤ c1_1) (h : xw.f k l0_0 l0_1 l1_0 l1_1 = some r) :
    Calls Tryd.prog 12 #[.agg #[.slice A0_0 l0_0.length c0_0, .slice A0_1 l0_1.length c0_1], .agg #[.slice A1_0 l1_0.length c1_0, .slice A1_1 l1_1.length c1_1]] w fun e w' => e = .returned (.bool r) ∧ Below w.heap.size w w' := by
  have hu1 := Tryd.underlying30
  have hu2 := Tryd.underlying52
  unfold xw.f at h
  obtain ⟨t0, ht0, h⟩ := Option.bind_eq_some_iff.1 h
  have HT0 := za.mk ht0
  have HR0 := za.mk hr0_0
  have HC0 := za.mk hc0_0
  have HR1 := za.mk hr0_1
  have HC1 := za.mk hc0_1
  have KR0 := za.mk hr1_0
  have KC0 := za.mk hc1_0
  have KR1 := za.mk hr1_1
  have KC1 := za.mk hc1_1
  clear ht0 hr0_0 hc0_0 hr0_1 hc0_1 hr1_0 hc1_0 hr1_1 hc1_1
  have HM := za.mk (show l0_1.length ≤ 9223372036854775807 from HR1.out.2.1)
  have KM := za.mk (show l1_1.length ≤ 9223372036854775807 from KR1.out.2.1)
  obtain ⟨wb, hwb⟩ : ∃ wb, wb = (w.alloc (.cells #[.slice A0_0 l0_0.length c0_0, .slice A0_1 l0_1.length c0_1] 30)).alloc (.cells #[.slice A1_0 l1_0.length c1_0, .slice A1_1 l1_1.length c1_1] 30) := ⟨_, rfl⟩
  have HBX := za.mk (show wb.heap[w.heap.size]? = some (.cells #[.slice A0_0 l0_0.length c0_0, .slice A0_1 l0_1.length c0_1] 30 (0, 0)) by rw [hwb, heap_alloc_old _ _ (by simp)]; exact heap_alloc_new w _)
  have HBY := za.mk (show wb.heap[w.heap.size + 1]? = some (.cells #[.slice A1_0 l1_0.length c1_0, .slice A1_1 l1_1.length c1_1] 30 (0, 0)) by rw [hwb]; exact alloc_atQ (by simp))
  have HB := za.mk (show Below w.heap.size w wb by rw [hwb]; exact zc (zc (Below.refl _ _) _) _)
  go_enter Tryd.func12, Tryd.ntmps12
  go_upto_region 1 with (fail)
  rw [← hwb]
  clear hwb
  have xb0 : wb.cell? ⟨w.heap.size, 0, none⟩ = some (.slice A0_0 l0_0.length c0_0) := (zf HBX.out 0).trans rfl
  have xb1 : wb.cell? ⟨w.heap.size, 1, none⟩ = some (.slice A0_1 l0_1.length c0_1) := (zf HBX.out 1).trans rfl
  have yb0 : wb.cell? ⟨w.heap.size + 1, 0, none⟩ = some (.slice A1_0 l1_0.length c1_0) := (zf HBY.out 0).trans rfl
  have yb1 : wb.cell? ⟨w.heap.size + 1, 1, none⟩ = some (.slice A1_1 l1_1.length c1_1) := (zf HBY.out 1).trans rfl
  cases t0 with
  | false =>
    rw [if_neg Bool.false_ne_true] at h
    injection h with h
    subst h
    go_wp2_with (fail)
    refine (yv.calls k A0_0 c0_0 l0_0 A1_0 c1_0 l1_0 false _ (Kd.zX HR0.out HB.out) HC0.out (Kd.zX KR0.out HB.out) KC0.out HT0.out).mono ?_
    rintro e w2 ⟨rfl, hd⟩
    go_wp2
    go_ret
    exact ⟨rfl, below_drawn HB.out hd⟩
  | true =>
    rw [if_pos rfl] at h
    go_wp2_with (fail)
    refine (yv.calls k A0_0 c0_0 l0_0 A1_0 c1_0 l1_0 true _ (Kd.zX HR0.out HB.out) HC0.out (Kd.zX KR0.out HB.out) KC0.out HT0.out).mono ?_
    rintro e w2 ⟨rfl, hd⟩
    have HB2 := za.mk (below_drawn HB.out hd)
    have HBX2 := za.mk (heap_drawn HBX.out hd)
    have HBY2 := za.mk (heap_drawn HBY.out hd)
    clear xb0 xb1 yb0 yb1 HB HBX HBY hd
    have xb1 : w2.cell? ⟨w.heap.size, 1, none⟩ = some (.slice A0_1 l0_1.length c0_1) := (zf HBX2.out 1).trans rfl
    have yb1 : w2.cell? ⟨w.heap.size + 1, 1, none⟩ = some (.slice A1_1 l1_1.length c1_1) := (zf HBY2.out 1).trans rfl
    by_cases q : l0_1.length = l1_1.length
    · rw [if_pos q] at h
      have q1 : ((l0_1.length : Int) == (l1_1.length : Int)) = true := beq_iff_eq.mpr (by omega)
      have q2 : ((l0_1.length : Int) != (l1_1.length : Int)) = false := bne_eq_false_iff_eq.mpr (by omega)
      have q3 : (l0_1.length == l1_1.length) = true := beq_iff_eq.mpr q
      have H := za.mk h
      have Q := za.mk q
      clear h q
      go_wp2
      clear q1 q2 q3
      go_loopg [5] l0_1.length (fun n v5 w' => ∃ (x : Int), v5 = .int .i64 x ∧ za (x + n = l0_1.length ∧ 0 ≤ x) ∧ za (lqB k (l0_1.drop x.toNat) (l1_1.drop x.toNat) = some r) ∧ za (Below w.heap.size w w') ∧ za (w'.heap[w.heap.size]? = some (.cells #[.slice A0_0 l0_0.length c0_0, .slice A0_1 l0_1.length c0_1] 30 (0, 0))) ∧ za (w'.heap[w.heap.size + 1]? = some (.cells #[.slice A1_0 l1_0.length c1_0, .slice A1_1 l1_1.length c1_1] 30 (0, 0))))
      case atStart => exact ⟨0, rfl, ⟨by simp⟩, by simpa using H, HB2, HBX2, HBY2⟩
      case round =>
        clear H HB2 HBX2 HBY2 xb1 yb1
        obtain ⟨x, rfl, hx, H, HB, HBX, HBY⟩ := hrel
        obtain ⟨wo, rfl⟩ : ∃ wo, wo = wr := ⟨_, rfl⟩
        have xb1 : wo.cell? ⟨w.heap.size, 1, none⟩ = some (.slice A0_1 l0_1.length c0_1) := (zf HBX.out 1).trans rfl
        cases gk with
        | zero =>
          have cb : decide (x < l0_1.length) = false := by have := hx.out; exact decide_eq_false (by omega)
          have H := H.out
          rw [List.drop_eq_nil_of_le (by have := hx.out; omega), lqB_nil] at H
          injection H with H
          subst H
          go_wp2
          go_ret
          exact ⟨rfl, HB.out⟩
        | succ m =>
          have yb1 : wo.cell? ⟨w.heap.size + 1, 1, none⟩ = some (.slice A1_1 l1_1.length c1_1) := (zf HBY.out 1).trans rfl
          have cb : decide (x < l0_1.length) = true := by have := hx.out; exact decide_eq_true (by omega)
          obtain ⟨ad, B1, d1, la, ea, hl, hxc, hlc, hlr⟩ := C_rowsQ (Kd.zX HR1.out HB.out) x.toNat (by have := hx.out; omega)
          cases ea
          obtain ⟨ad2, B2, d2, lb, ea2, hl2, hyc, hlc2, hlr2⟩ := C_rowsQ (Kd.zX KR1.out HB.out) x.toNat (by have := hx.out; have := Q.out; omega)
          cases ea2
          have p0 : 0 ≤ x := hx.out.2
          have p1 : x < (l0_1.length : Int) := by have := hx.out; omega
          have p2 : x < (l1_1.length : Int) := by have := hx.out; have := Q.out; omega
          have HLC := za.mk hlc
          have HLR := za.mk hlr
          have HLM := za.mk (show la.length ≤ 9223372036854775807 from hlr.2.1)
          have KLC := za.mk hlc2
          have KLR := za.mk hlr2
          have KLM := za.mk (show lb.length ≤ 9223372036854775807 from hlr2.2.1)
          clear hlc hlr hlc2 hlr2
          have H := H.out
          rw [drop_at hl, drop_at hl2, lqB] at H
          clear hl hl2
          have HS := za.mk (show ∀ w', Below wo.heap.size wo w' → (Below wo.heap.size wo w' ∧ w'.cell? ⟨w.heap.size, 1, none⟩ = some (.slice (some ad) l0_1.length c0_1) ∧ w'.cell? ⟨w.heap.size + 1, 1, none⟩ = some (.slice (some ad2) l1_1.length c1_1) ∧ w'.cell? (ad.add x.toNat) = some (.slice B1 la.length d1) ∧ w'.cell? (ad2.add x.toNat) = some (.slice B2 lb.length d2)) from fun w' hb => ⟨hb, (zf ((hb.block _ (yO HBX.out)).trans HBX.out) 1).trans rfl, (zf ((hb.block _ (yO HBY.out)).trans HBY.out) 1).trans rfl, zA hb hxc, zA hb hyc⟩)
          go_upto_region 6 with (fail)
          go_cut [43] (fun v43 wc => v43 = .bool ((la.length : Int) != (lb.length : Int)) ∧ za (Below wo.heap.size wo wc))
          case first =>
            obtain ⟨sb, s1, s2, s3, s4⟩ := HS.out wo (Below.refl _ _)
            go_region_held3 (fun w' => Below wo.heap.size wo w' ∧ w'.cell? ⟨w.heap.size, 1, none⟩ = some (.slice (some ad) l0_1.length c0_1) ∧ w'.cell? ⟨w.heap.size + 1, 1, none⟩ = some (.slice (some ad2) l1_1.length c1_1) ∧ w'.cell? (ad.add x.toNat) = some (.slice B1 la.length d1) ∧ w'.cell? (ad2.add x.toNat) = some (.slice B2 lb.length d2)) (first | exact HS.out _ (yh (Below.refl _ _)) | exact HS.out _ (Below.refl _ _) | go_keep) (fail)
            go_wp2_with (fail)
            go_meet
            exact ⟨rfl, ⟨And.left (by assumption)⟩⟩
          case rest =>
            obtain ⟨rfl, HC_⟩ := hcut
            have HBc := za.mk (zp HB.out HC_.out)
            have HBXc := za.mk ((HC_.out.block _ (yO HBX.out)).trans HBX.out)
            have HBYc := za.mk ((HC_.out.block _ (yO HBY.out)).trans HBY.out)
            have HXc := za.mk (zA HC_.out hxc)
            have HYc := za.mk (zA HC_.out hyc)
            have HRc := za.mk (Kd.zX HLR.out HC_.out)
            have KRc := za.mk (Kd.zX KLR.out HC_.out)
            clear HS HB HBX HBY xb1 yb1 hxc hyc HLR KLR HC_
            by_cases q : la.length = lb.length
            · rw [if_pos q] at H
              have Q2 := za.mk q
              have q2 : ((la.length : Int) != (lb.length : Int)) = false := bne_eq_false_iff_eq.mpr (by omega)
              rw [q2]
              obtain ⟨t1, ht1, H⟩ := Option.bind_eq_some_iff.1 H
              have HT1 := za.mk ht1
              have H := za.mk H
              clear ht1 q
              have ei : wrap64 (x + 1) = x + 1 := by have h1 := HM.out; unfold wrap64; omega
              go_wp2
              go_loopg [6] la.length (fun n v6 w' => ∃ (y : Int), v6 = .int .i64 y ∧ za (y + n = la.length ∧ 0 ≤ y) ∧ za (lqR k (la.drop y.toNat) (lb.drop y.toNat) = some t1) ∧ za (Below wc.heap.size wc w'))
              case atStart => exact ⟨0, rfl, ⟨by simp⟩, by simpa using HT1, ⟨Below.refl _ _⟩⟩
              case round =>
                clear HT1 q2 cb
                obtain ⟨y, rfl, hy, HI, HBi⟩ := hrel
                have HBXi := za.mk ((HBi.out.block _ (yO HBXc.out)).trans HBXc.out)
                have HBYi := za.mk ((HBi.out.block _ (yO HBYc.out)).trans HBYc.out)
                have xb1 : wr.cell? ⟨w.heap.size, 1, none⟩ = some (.slice (some ad) l0_1.length c0_1) := (zf HBXi.out 1).trans rfl
                have hxc := zA HBi.out HXc.out
                cases gk with
                | zero =>
                  have cb2 : decide (y < la.length) = false := by have := hy.out; exact decide_eq_false (by omega)
                  have HI := HI.out
                  rw [List.drop_eq_nil_of_le (by have := hy.out; omega), lqR_nil] at HI
                  injection HI with HI
                  subst HI
                  have H := H.out
                  rw [if_pos rfl] at H
                  have H := za.mk H
                  go_wp2
                  go_roundg m
                  case measure => exact Nat.lt_succ_self _
                  case rel => exact ⟨x + 1, by first | rfl | (simp [ei]; done), ⟨by have h1 := hx.out; omega⟩, ⟨by rw [show (x + 1).toNat = x.toNat + 1 by omega]; exact H.out⟩, ⟨zp HBc.out HBi.out⟩, HBXi, HBYi⟩
                | succ m2 =>
                  have yb1 : wr.cell? ⟨w.heap.size + 1, 1, none⟩ = some (.slice (some ad2) l1_1.length c1_1) := (zf HBYi.out 1).trans rfl
                  have hyc := zA HBi.out HYc.out
                  have cb2 : decide (y < la.length) = true := by have := hy.out; exact decide_eq_true (by omega)
                  have q0 : 0 ≤ y := hy.out.2
                  have q1 : y < (la.length : Int) := by have := hy.out; omega
                  have q3 : y < (lb.length : Int) := by have := hy.out; have := Q2.out; omega
                  have ei2 : wrap64 (y + 1) = y + 1 := by have h1 := HLM.out; unfold wrap64; omega
                  obtain ⟨ad3, D1, d1_, D2, d2_, ea3, hza, hzb, hzc, hzd, hle1, hre1, hle2, hre2⟩ := at_T52 (Kd.zX HRc.out HBi.out) y q0 q1
                  cases ea3
                  obtain ⟨ad4, E1, e1_, E2, e2_, ea4, gza, gzb, gzc, gzd, gle1, gre1, gle2, gre2⟩ := at_T52 (Kd.zX KRc.out HBi.out) y q0 q3
                  cases ea4
                  have HI := HI.out
                  rw [drop_rd q0 q1, drop_rd q0 q3, lqR] at HI
                  obtain ⟨a, ha⟩ : ∃ a, a = zM la y := ⟨_, rfl⟩
                  obtain ⟨b, hb⟩ : ∃ b, b = zM lb y := ⟨_, rfl⟩
                  rw [← ha] at hza hzb hzc hzd hle1 hre1 hle2 hre2 HI
                  rw [← hb] at gza gzb gzc gzd gle1 gre1 gle2 gre2 HI
                  clear ha hb
                  obtain ⟨t2, ht2, HI⟩ := Option.bind_eq_some_iff.1 HI
                  have HI := za.mk HI
                  have HRe1 := za.mk hre1
                  have HRe2 := za.mk hre2
                  have HLe1 := za.mk hle1
                  have HLe2 := za.mk hle2
                  have KRe1 := za.mk gre1
                  have KRe2 := za.mk gre2
                  have KLe1 := za.mk gle1
                  have KLe2 := za.mk gle2
                  have HT2 := za.mk ht2
                  clear hre1 hre2 hle1 hle2 gre1 gre2 gle1 gle2 ht2
                  go_upto_region 12 with (fail)
                  obtain ⟨wp, hwp⟩ : ∃ wp, wp = wr.alloc (.cells #[.int .i64 a.f0, .slice D1 a.f1.length d1_, .slice D2 a.f2.length d2_, .int .i64 a.f3] 52) := ⟨_, rfl⟩
                  rw [← hwp]
                  have HBP := za.mk (show Below wr.heap.size wr wp by rw [hwp]; exact zc (Below.refl _ _) _)
                  have HP := za.mk (show wp.heap[wr.heap.size]? = some (.cells #[.int .i64 a.f0, .slice D1 a.f1.length d1_, .slice D2 a.f2.length d2_, .int .i64 a.f3] 52 (0, 0)) by rw [hwp]; exact heap_alloc_new wr _)
                  have HPS := za.mk (show wp.heap.size = wr.heap.size + 1 by rw [hwp]; simp)
                  clear hwp hza hzb hzc hzd xb1 hxc
                  replace yb1 := zA HBP.out yb1
                  replace hyc := zA HBP.out hyc
                  replace gza := zA HBP.out gza
                  replace gzb := zA HBP.out gzb
                  replace gzc := zA HBP.out gzc
                  replace gzd := zA HBP.out gzd
                  go_upto_region 13 with (fail)
                  obtain ⟨wa, hwa⟩ : ∃ wa, wa = wp.alloc (.cells #[.int .i64 b.f0, .slice E1 b.f1.length e1_, .slice E2 b.f2.length e2_, .int .i64 b.f3] 52) := ⟨_, rfl⟩
                  rw [← hwa]
                  have HBA := za.mk (show Below wr.heap.size wr wa by rw [hwa]; exact zc HBP.out _)
                  have HA := za.mk (show wa.heap[wr.heap.size]? = some (.cells #[.int .i64 a.f0, .slice D1 a.f1.length d1_, .slice D2 a.f2.length d2_, .int .i64 a.f3] 52 (0, 0)) by rw [hwa, heap_alloc_old _ _ (by rw [HPS.out]; omega)]; exact HP.out)
                  have HA2 := za.mk (show wa.heap[wp.heap.size]? = some (.cells #[.int .i64 b.f0, .slice E1 b.f1.length e1_, .slice E2 b.f2.length e2_, .int .i64 b.f3] 52 (0, 0)) by rw [hwa]; exact heap_alloc_new wp _)
                  clear hwa gza gzb gzc gzd yb1 hyc cb2 HP HBP
                  have HS := za.mk (show ∀ w', Below wa.heap.size wa w' → (w'.cell? ⟨wr.heap.size, 0, none⟩ = some (.int .i64 a.f0) ∧ w'.cell? ⟨wr.heap.size, 1, none⟩ = some (.slice D1 a.f1.length d1_) ∧ w'.cell? ⟨wr.heap.size, 2, none⟩ = some (.slice D2 a.f2.length d2_) ∧ w'.cell? ⟨wr.heap.size, 3, none⟩ = some (.int .i64 a.f3) ∧ w'.cell? ⟨wp.heap.size, 0, none⟩ = some (.int .i64 b.f0) ∧ w'.cell? ⟨wp.heap.size, 1, none⟩ = some (.slice E1 b.f1.length e1_) ∧ w'.cell? ⟨wp.heap.size, 2, none⟩ = some (.slice E2 b.f2.length e2_) ∧ w'.cell? ⟨wp.heap.size, 3, none⟩ = some (.int .i64 b.f3)) from fun w' hb => by
                    have z1 := (hb.block _ (yO HA.out)).trans HA.out
                    have z2 := (hb.block _ (yO HA2.out)).trans HA2.out
                    exact ⟨(zf z1 0).trans rfl, (zf z1 1).trans rfl, (zf z1 2).trans rfl, (zf z1 3).trans rfl, (zf z2 0).trans rfl, (zf z2 1).trans rfl, (zf z2 2).trans rfl, (zf z2 3).trans rfl⟩)
                  go_cut [97] (fun v97 wd => v97 = .bool (!t2) ∧ za (Below wa.heap.size wa wd))
                  case first =>
                    obtain ⟨r0, r1, r2, r3, s0, s1, s2, s3⟩ := HS.out wa (Below.refl _ _)
                    have ht2 := HT2.out
                    unfold lqA at ht2
                    by_cases c1 : a.f0 = b.f0
                    · rw [if_pos c1] at ht2
                      have c1b : (a.f0 != b.f0) = false := bne_eq_false_iff_eq.mpr c1
                      clear c1
                      by_cases c2 : a.f3 = b.f3
                      · rw [if_pos c2] at ht2
                        have c2b : (a.f3 != b.f3) = false := bne_eq_false_iff_eq.mpr c2
                        clear c2
                        obtain ⟨t3, ht3, ht2⟩ := Option.bind_eq_some_iff.1 ht2
                        have HT3 := za.mk ht3
                        have ht2 := za.mk ht2
                        clear ht3
                        go_wp2_with (fail)
                        refine (yv.calls k D2 d2_ a.f2 E2 e2_ b.f2 t3 _ (Kd.zX HRe2.out HBA.out) HLe2.out (Kd.zX KRe2.out HBA.out) KLe2.out HT3.out).mono ?_
                        rintro e wd ⟨rfl, hd⟩
                        have hb0 := za.mk (below_drawn (Below.refl wa.heap.size wa) hd)
                        clear hd r0 r1 r2 r3 s0 s1 s2 s3
                        obtain ⟨r0, r1, r2, r3, s0, s1, s2, s3⟩ := HS.out wd hb0.out
                        have ht2 := ht2.out
                        cases t3 with
                        | true =>
                          rw [if_pos rfl] at ht2
                          have HT4 := za.mk ht2
                          clear ht2
                          go_wp2_with (fail)
                          refine (yD.calls k D1 d1_ a.f1 E1 e1_ b.f1 t2 _ (Kd.zX (Kd.zX HRe1.out HBA.out) hb0.out) HLe1.out (Kd.zX (Kd.zX KRe1.out HBA.out) hb0.out) KLe1.out HT4.out).mono ?_
                          rintro e we ⟨rfl, hd⟩
                          have hb1 := za.mk (below_drawn hb0.out hd)
                          clear hd
                          go_wp2_with (fail)
                          go_meet
                          exact ⟨rfl, hb1⟩
                        | false =>
                          rw [if_neg Bool.false_ne_true] at ht2
                          injection ht2 with ht2
                          subst ht2
                          go_wp2_with (fail)
                          go_meet
                          exact ⟨rfl, hb0⟩
                      · rw [if_neg c2] at ht2
                        have c2b : (a.f3 != b.f3) = true := bne_iff_ne.mpr c2
                        clear c2
                        injection ht2 with ht2
                        subst ht2
                        go_wp2_with (fail)
                        go_meet
                        exact ⟨rfl, ⟨Below.refl _ _⟩⟩
                    · rw [if_neg c1] at ht2
                      have c1b : (a.f0 != b.f0) = true := bne_iff_ne.mpr c1
                      clear c1
                      injection ht2 with ht2
                      subst ht2
                      go_wp2_with (fail)
                      go_meet
                      exact ⟨rfl, ⟨Below.refl _ _⟩⟩
                  case rest =>
                    obtain ⟨rfl, HD_⟩ := hcut
                    have HI := HI.out
                    have HBd := za.mk (zp (zp HBi.out HBA.out) HD_.out)
                    clear HS HA HA2 HRe1 HRe2 KRe1 KRe2 HD_ HT2
                    cases t2 with
                    | true =>
                      rw [if_pos rfl] at HI
                      have HI := za.mk HI
                      go_wp2
                      go_roundg m2
                      case measure => exact Nat.lt_succ_self _
                      case rel => exact ⟨y + 1, by first | rfl | (simp [ei2]; done), ⟨by have h1 := hy.out; omega⟩, ⟨by rw [show (y + 1).toNat = y.toNat + 1 by omega]; exact HI.out⟩, HBd⟩
                    | false =>
                      rw [if_neg Bool.false_ne_true] at HI
                      injection HI with HI
                      subst HI
                      have H := H.out
                      rw [if_neg Bool.false_ne_true] at H
                      injection H with H
                      subst H
                      go_wp2
                      go_ret
                      exact ⟨rfl, zp HBc.out HBd.out⟩
            · rw [if_neg q] at H
              have q2 : ((la.length : Int) != (lb.length : Int)) = true := bne_iff_ne.mpr (by omega)
              injection H with H
              subst H
              go_wp2
              go_ret
              exact ⟨rfl, HBc.out⟩
    · rw [if_neg q] at h
      have q1 : ((l0_1.length : Int) == (l1_1.length : Int)) = false := beq_eq_false_iff_ne.mpr (by omega)
      have q2 : ((l0_1.length : Int) != (l1_1.length : Int)) = true := bne_iff_ne.mpr (by omega)
      have q3 : (l0_1.length == l1_1.length) = false := beq_eq_false_iff_ne.mpr q
      injection h with h
      subst h
      go_wp2
      go_ret
      exact ⟨rfl, HB2.out⟩
end Go.Proofs.YtoeepmcaabmjkaaDoor.QPO
