import Derived.Test.YtoeepmcaabmjkaaDoorPO0
import Derived.Test.YtoeepmcaabmjkaaDoorPO1
import Derived.Test.YtoeepmcaabmjkaaDoorPO2
import Derived.Test.YtoeepmcaabmjkaaDoorPO3
namespace Go.Proofs.YtoeepmcaabmjkaaDoor.QPO
open Go.RowKit Go.Proofs.YtoeepmcaabmjkaaDoorW.PrintWords Go.Proofs.YtoeepmcaabmjkaaDoorW.PrintLast Go.Proofs.YtoeepmcaabmjkaaDoorW.PrintMore
attribute [local go_sem] yz yx yQ yP yl yk yy yw   -- for this text's walks alone
set_option linter.unusedVariables false
set_option linter.unusedSimpArgs false
def nums5 : List Int := [0, 0, 1, 5, 99]
def cellsF (k : Nat) (b : List Int) : Nat → List Int → Int → Option (List Int × Int)
  | 0, l, p => some (l, p)
  | n + 1, l, p => (zi.f k b p 5).bind fun c => if 0 ≤ c.1 ∧ c.1 < 5 then cellsF k b n (l ++ [nums5.getD c.1.toNat 0]) c.2 else none
def bodiesF (k : Nat) (b : List Int) (bodies cells : Int) : Nat → Int → List (List S52) → Int → Option (List (List S52) × Int)
  | 0, _, l, p => some (l, p)
  | n + 1, i, l, p => (zv.f k b p i bodies cells).bind fun r => bodiesF k b bodies cells n (i + 1) (l ++ [r.1]) r.2
def forkF (k : Nat) (b : List Int) (bodies cells : Int) (l0 : List Int) (l1 : List (List S52)) (p : Int) : Option (List Int × List (List S52) × Int) :=
  (zi.f k b p 4).bind fun e => if e.1 > 0 then (zi.f k b e.2 (bodies - 1)).bind fun x => if 0 ≤ x.1 ∧ x.1 < 4 then (zJ.f k b x.2 cells).bind fun y => some (l0, l1.set 0 [⟨2, [], [1, 1 + x.1], 0⟩, ⟨1, y.1, [], 0⟩], y.2) else none else some (l0, l1, e.2)
def oneF (k : Nat) (b : List Int) (p : Int) : Option (List Int × List (List S52) × Int) :=
  (zi.f k b p 3).bind fun c => if 0 ≤ c.1 ∧ c.1 < 3 then (cellsF k b (1 + c.1).toNat [] c.2).bind fun l => (zi.f k b l.2 3).bind fun d => if 0 ≤ d.1 ∧ d.1 < 3 then (bodiesF k b (2 + d.1) (1 + c.1) (2 + d.1).toNat 0 [] d.2).bind fun m => forkF k b (2 + d.1) (1 + c.1) l.1 m.1 m.2 else none else none
def progF (k : Nat) (b : List Int) : Nat → Int → Option (List Int × List (List S52) × Int)
  | 0, p => some ([1], [[⟨2, [], [1, 1], 0⟩], [⟨1, [⟨1, 0, 0⟩, ⟨4, 0, 0⟩, ⟨2, 0, 0⟩], [], 0⟩]], p)
  | n + 1, p => (oneF k b p).bind fun r => (yY.f k r.1 r.2.1).bind fun ok => if ok = true then some r else progF k b n r.2.2
def xx.f (k : Nat) (s0_0 : List Int) (s0_1 : Int) : Option (List Int × List (List S52) × Int) := progF k s0_0 10 s0_1
structure PG (w0 V w : World) (g D : Nat) (b : List Int) (p : Int) (v0 v1 : Value) (l0 : List Int) (l1 : List (List S52)) : Prop where
  I : ze w0 w g b p
  B : Below w0.heap.size w0 w
  K : zk V w g none
  hV : w0.heap.size ≤ V.heap.size
  blk : w.heap[D]? = some (.cells #[v0, v1] 30 (0, 0))
  nD : V.heap.size ≤ D
  r0 : Kd.R (Kd.int .i64) 3 w V.heap.size (fun _ => True) v0 l0
  r1 : Kd.R (Kd.slice 52 k52) 48 w V.heap.size (fun k => some k ≠ v0.ownBlock) v1 l1
section
variable {w0 V w w1 : World} {g D : Nat} {b : List Int} {p p' : Int} {v0 v1 : Value} {l0 : List Int} {l1 : List (List S52)}
theorem PG.keep (h : PG w0 V w g D b p v0 v1 l0 l1) (hi : ze w0 w1 g b p') (hb : Below w0.heap.size w0 w1) (hk : zk w w1 g none) : PG w0 V w1 g D b p' v0 v1 l0 l1 :=
  ⟨hi, hb, h.K.trans hk (.inl rfl), h.hV, hk.blk h.blk (fun e => ze.ne_blk h.I h.blk (by decide) e.symm) (by simp), h.nD,
    Kd.zZ (Kd.R_keep (ze.apart h.I h.r0 (by decide)) hk (fun _ hk => hk.2)) (fun _ _ => trivial),
    Kd.zZ (Kd.R_keep (ze.apart h.I h.r1 (by decide)) hk (fun _ hk => hk.2)) (fun _ hk => hk.1)⟩
theorem PG.below (h : PG w0 V w g D b p v0 v1 l0 l1) (hb : Below w.heap.size w w1) : PG w0 V w1 g D b p v0 v1 l0 l1 :=
  h.keep (h.I.below hb) (xe h.B h.B.size hb) (zk.of_below hb g none)
theorem PG.alloc (h : PG w0 V w g D b p v0 v1 l0 l1) (o : Obj) : PG w0 V (w.alloc o) g D b p v0 v1 l0 l1 := h.below (zc (Below.refl _ _) o)
theorem PG.drew (h : PG w0 V w g D b p v0 v1 l0 l1) : PG w0 V w.drew g D b p v0 v1 l0 l1 := h.below (yh (Below.refl _ _))
end
theorem R_nought {α : Type} {d : Kd α} {e : Nat} {w : World} {base b : Nat} {ok : Nat → Prop} (h : w.heap[b]? = some (.cells #[] e (0, 0))) (hb : base ≤ b) (hok : ok b) : Kd.R d e w base ok (.slice (some ⟨b, 0, none⟩) 0 0) ([] : List α) := by
  refine ⟨fun k hk => ?_, [], ⟨by simp, .inr ⟨b, 0, #[], rfl, hb, h, Nat.le_refl _, by simp [maxLen], by simp, by simp⟩⟩, yt.none _ _⟩
  have : b = k := by simpa [Value.ownBlock] using hk
  subst this
  exact hok
section
variable {w0 V w w1 : World} {g D : Nat} {b : List Int} {p p' : Int} {v0 v1 v' : Value} {l0 l0' : List Int} {l1 l1' : List (List S52)}
theorem PG.start {wr : World} (hi : ze w0 wr g b p) (hb : Below w0.heap.size w0 wr) (hk : zk V wr g none) (hV : w0.heap.size ≤ V.heap.size) :
    PG w0 V ((wr.alloc (.cells #[] 3)).alloc (.cells #[.slice (some ⟨wr.heap.size, 0, none⟩) 0 0, .slice none 0 0] 30)) g (wr.heap.size + 1) b p (.slice (some ⟨wr.heap.size, 0, none⟩) 0 0) (.slice none 0 0) [] [] := by
  have hs := z7 hk
  exact ⟨(hi.alloc _).alloc _, zc (zc hb _) _, zt (zt hk _) _, hV, by have := heap_alloc_new (wr.alloc (.cells #[] 3)) (.cells #[.slice (some ⟨wr.heap.size, 0, none⟩) 0 0, .slice none 0 0] 30); simpa using this, by omega,
    R_nought (zj (heap_alloc_new _ _) _) hs trivial, Kd.xG _ _ _ _ _⟩
theorem PG.cell0 (h : PG w0 V w g D b p v0 v1 l0 l1) : w.cell? ⟨D, 0, none⟩ = some v0 := (zf h.blk 0).trans rfl
theorem PG.cell1 (h : PG w0 V w g D b p v0 v1 l0 l1) : w.cell? ⟨D, 1, none⟩ = some v1 := (zf h.blk 1).trans rfl
theorem xl {V w1 : World} {D : Nat} (h : zk V w1 g none) (hD : V.heap.size ≤ D) (j : Nat) (u : Value) : zk V (w1.setCell ⟨D, j, none⟩ u) g none :=
  ⟨by have := h.1; simpa using this, fun i hi hg hn => (Below.heap_setCell w1 ⟨D, j, none⟩ u i (Nat.ne_of_lt (Nat.lt_of_lt_of_le hi hD))).trans (h.2 i hi hg hn)⟩
theorem PG.push0 (h : PG w0 V w g D b p v0 v1 l0 l1) (hv : v1 = .slice none 0 0) (hl : l1 = []) (hr : Kd.R (Kd.int .i64) 3 w1 V.heap.size (fun _ => True) v' l0') (hb : Below V.heap.size w w1) (hg : w.grownBy w1 v0.ownBlock) :
    PG w0 V (w1.setCell ⟨D, 0, none⟩ v') g D b p v' v1 l0' l1 := by
  subst hv hl
  have hne := ze.own_ne h.I h.r0 (by decide)
  have hD : some D ≠ v0.ownBlock := Kd.R_away (Kd.y6 h.r0 h.blk (by decide)) (fun _ hk => hk.2)
  have hblk := xm h.blk hg hD
  refine ⟨(h.I.grown hg hne).far (p := ⟨D, 0, none⟩) (ze.ne_blk h.I h.blk (by decide)) _, zh (yX h.B h.hV hb) (Nat.le_trans h.hV h.nD), xl (h.K.trans (zk.of_grown hg g) (Kd.R_base2 h.r0 |>.imp (fun e => e) (fun e => e))) h.nD _ _, h.hV, (yT hblk 0 v'), h.nD, Kd.xH hr hblk (by decide) _ _, Kd.xG _ _ _ _ _⟩
theorem PG.grow0 (h : PG w0 V w g D b p v0 v1 l0 l1) (hg : w.grownBy w1 v0.ownBlock) : w1.heap[D]? = some (.cells #[v0, v1] 30 (0, 0)) := xm h.blk hg (Kd.R_away (Kd.y6 h.r0 h.blk (by decide)) (fun _ hk => hk.2))
theorem PG.grow1 (h : PG w0 V w g D b p v0 v1 l0 l1) (hg : w.grownBy w1 v1.ownBlock) : w1.heap[D]? = some (.cells #[v0, v1] 30 (0, 0)) := xm h.blk hg (Kd.R_away (Kd.y6 h.r1 h.blk (by decide)) (fun _ hk => hk.2))
theorem PG.push1 (h : PG w0 V w g D b p v0 v1 l0 l1) (hr : Kd.R (Kd.slice 52 k52) 48 w1 V.heap.size (fun k => some k ≠ v0.ownBlock) v' l1') (hb : Below V.heap.size w w1) (hg : w.grownBy w1 v1.ownBlock) :
    PG w0 V (w1.setCell ⟨D, 1, none⟩ v') g D b p v0 v' l0 l1' := by
  have hne := ze.own_ne h.I h.r1 (by decide)
  have hD : some D ≠ v1.ownBlock := Kd.R_away (Kd.y6 h.r1 h.blk (by decide)) (fun _ hk => hk.2)
  have hblk := xm h.blk hg hD
  refine ⟨(h.I.grown hg hne).far (p := ⟨D, 1, none⟩) (ze.ne_blk h.I h.blk (by decide)) _, zh (yX h.B h.hV hb) (Nat.le_trans h.hV h.nD), xl (h.K.trans (zk.of_grown hg g) (Kd.R_base2 h.r1 |>.imp (fun e => e) (fun e => e))) h.nD _ _, h.hV, (yT hblk 1 v'), h.nD, Kd.xH (Kd.zZ (Kd.R_grown (Kd.R_apartR h.r0 h.r1 (by decide)) hg (fun _ hk => hk.2)) (fun _ _ => trivial)) hblk (by decide) _ _, Kd.xH hr hblk (by decide) _ _⟩
end
theorem xI {α : Type} {d : Kd α} {e : Nat} {w : World} {base b : Nat} {ok : Nat → Prop} {xs : List α} {cs : List Value} (h : w.heap[b]? = some (.cells cs.toArray e (0, 0))) (hb : base ≤ b) (hok : ok b) (hl : xs.length ≤ maxLen)
    (hr : yt (d.M w base (fun k => ok k ∧ k ≠ b)) d.sz xs cs) : Kd.R d e w base ok (.slice (some ⟨b, 0, none⟩) xs.length xs.length) xs := by
  have hcl : cs.length = xs.length * d.sz := hr.1
  refine ⟨fun k hk => ?_, cs, ⟨hcl, .inr ⟨b, xs.length, cs.toArray, rfl, hb, h, Nat.le_refl _, hl, by simpa using hcl, ?_⟩⟩, hr.imp_ (fun _ _ hp => d.M_mono (fun k hk => ⟨hk.1, fun e => hk.2 (by simpa [Value.ownBlock] using e)⟩) hp)⟩
  · have : b = k := by simpa [Value.ownBlock] using hk
    subst this
    exact hok
  · rw [← hcl]; simp
section
variable {w0 V w wx : World} {g D : Nat} {b : List Int} {p : Int} {v0 v1 u : Value} {l0 : List Int} {l1 : List (List S52)} {row : List S52}
theorem PG.put1 {B c n : Nat} (h : PG w0 V w g D b p v0 (.slice (some ⟨B, 0, none⟩) n c) l0 l1) (hl : 0 < n) (hu : Kd.R k52 52 w V.heap.size (fun k => k ≠ B ∧ some k ≠ v0.ownBlock) u row) :
    PG w0 V (w.setCell ⟨B, 0, none⟩ u) g D b p v0 (.slice (some ⟨B, 0, none⟩) n c) l0 (l1.set 0 row) := by
  obtain ⟨cc, hcl, _, hcc, _⟩ := Kd.R_elem h.r1 ([] : List S52) 0 (by decide) (by omega)
  have hc1 : cc.length = 1 := hcl
  have hs := Kd.R_seg h.r1 0 (by decide) (by omega) hcl hcc (seg := [u]) (j := 0) (x' := row) (okp := fun k => k ≠ B ∧ some k ≠ v0.ownBlock) (by exact Nat.le_refl 1)
    (by
      have : cc.take 0 ++ [u] ++ cc.drop (0 + [u].length) = [u] := by
        rw [List.drop_eq_nil_of_le (by simp [hc1])]; rfl
      rw [this]
      exact ⟨u, rfl, hu⟩) (fun k hk => ⟨hk.2, hk.1⟩)
  have e1 : w.setCells B ((0 : Int).toNat * (Kd.slice 52 k52).sz + 0) [u] = w.setCell ⟨B, 0, none⟩ u := rfl
  rw [e1] at hs
  obtain ⟨hr, hg⟩ := hs
  have hne := ze.own_ne h.I h.r1 (by decide)
  have hD : some D ≠ (Value.slice (some ⟨B, 0, none⟩) n c).ownBlock := Kd.R_away (Kd.y6 h.r1 h.blk (by decide)) (fun _ hk => hk.2)
  have hBb : V.heap.size ≤ B := Kd.xM h.r1 B (by simp [Value.ownBlock])
  have hob : (Value.slice (some ⟨B, 0, none⟩) n c).ownBlock = some B := by simp [Value.ownBlock]
  rw [hob] at hne hD
  refine ⟨h.I.grown hg hne, zh h.B (Nat.le_trans h.hV hBb), h.K.trans (zk.of_grown hg g) (.inr ⟨B, rfl, hBb⟩), h.hV, xm h.blk hg hD, h.nD,
    Kd.zZ (Kd.R_grown (Kd.R_apartR h.r0 h.r1 (by decide)) (by rw [hob]; exact hg) (fun _ hk => hk.2)) (fun _ _ => trivial), hr⟩
theorem done2 (hI : ze w0 wx g b p) (hB0 : Below w0.heap.size w0 wx) (hK1 : zk V wx g none) (q0 : Kd.R (Kd.int .i64) 3 wx V.heap.size (fun _ => True) v0 l0) (q1 : Kd.R (Kd.slice 52 k52) 48 wx V.heap.size (fun k => some k ≠ v0.ownBlock) v1 l1)
    {R : Nat} {x0 x1 : Value} (hS : V.heap.size = R + 1) (hB : V.heap[R]? = some (.cells #[x0, x1] 30 (0, 0))) (hK : zk w V g none) (hw : w.heap.size = R) (hg : g ≠ R) (hR : w0.heap.size ≤ R) :
    ((wx.setCell ⟨R, 0, none⟩ v0).setCell ⟨R, 1, none⟩ v1).heap[R]? = some (.cells #[v0, v1] 30 (0, 0)) ∧ Kd.R (Kd.int .i64) 3 ((wx.setCell ⟨R, 0, none⟩ v0).setCell ⟨R, 1, none⟩ v1) R (fun _ => True) v0 l0 ∧ Kd.R (Kd.slice 52 k52) 48 ((wx.setCell ⟨R, 0, none⟩ v0).setCell ⟨R, 1, none⟩ v1) R (fun k => some k ≠ v0.ownBlock) v1 l1 ∧ ze w0 ((wx.setCell ⟨R, 0, none⟩ v0).setCell ⟨R, 1, none⟩ v1) g b p ∧ Below w0.heap.size w0 ((wx.setCell ⟨R, 0, none⟩ v0).setCell ⟨R, 1, none⟩ v1) ∧ zk w ((wx.setCell ⟨R, 0, none⟩ v0).setCell ⟨R, 1, none⟩ v1) g none := by
  have hb : wx.heap[R]? = some (.cells #[x0, x1] 30 (0, 0)) := hK1.blk hB (fun e => hg e.symm) (by simp)
  have hle : R ≤ V.heap.size := by omega
  have hb1 := yT hb 0 v0
  have hb2 := yT hb1 1 v1
  have r0 := Kd.xH (Kd.xH (Kd.yq q0 hle) hb (by decide) 0 v0) hb1 (by decide) 1 v1
  have r1 := Kd.xH (Kd.xH (Kd.yq q1 hle) hb (by decide) 0 v0) hb1 (by decide) 1 v1
  exact ⟨hb2, r0, r1, (hI.far (p := ⟨R, 0, none⟩) (fun e => hg e) _).far (p := ⟨R, 1, none⟩) (fun e => hg e) _, zh (zh hB0 hR) hR,
    xl (xl (hK.trans hK1 (.inl rfl)) (by omega) 0 v0) (by omega) 1 v1⟩
end
theorem alloc_at {W : World} {o : Obj} {b : Nat} (h : W.heap.size = b) : (W.alloc o).heap[b]? = some o := by subst h; exact heap_alloc_new W o
section
variable (w : World) (o1 o2 o3 o4 o5 o6 : Obj)
theorem six0 : ((((((w.alloc o1).alloc o2).alloc o3).alloc o4).alloc o5).alloc o6).heap[w.heap.size]? = some o1 := zj (zj (zj (zj (zj (alloc_at rfl) _) _) _) _) _
theorem six1 : ((((((w.alloc o1).alloc o2).alloc o3).alloc o4).alloc o5).alloc o6).heap[w.heap.size + 1]? = some o2 := zj (zj (zj (zj (alloc_at (by simp)) _) _) _) _
theorem six2 : ((((((w.alloc o1).alloc o2).alloc o3).alloc o4).alloc o5).alloc o6).heap[w.heap.size + 1 + 1]? = some o3 := zj (zj (zj (alloc_at (by simp)) _) _) _
theorem six3 : ((((((w.alloc o1).alloc o2).alloc o3).alloc o4).alloc o5).alloc o6).heap[w.heap.size + 1 + 1 + 1]? = some o4 := zj (zj (alloc_at (by simp)) _) _
theorem six4 : ((((((w.alloc o1).alloc o2).alloc o3).alloc o4).alloc o5).alloc o6).heap[w.heap.size + 1 + 1 + 1 + 1]? = some o5 := zj (alloc_at (by simp)) _
theorem six5 : ((((((w.alloc o1).alloc o2).alloc o3).alloc o4).alloc o5).alloc o6).heap[w.heap.size + 1 + 1 + 1 + 1 + 1]? = some o6 := alloc_at (by simp)
theorem six_below : Below w.heap.size w ((((((w.alloc o1).alloc o2).alloc o3).alloc o4).alloc o5).alloc o6) := zc (zc (zc (zc (zc (zc (Below.refl _ _) _) _) _) _) _) _
end
theorem zero_r0 (wr : World) (base : Nat) (hb : base ≤ wr.heap.size) : Kd.R (Kd.int .i64) 3 ((((((wr.alloc (.cells #[.int .i64 1] 3)).alloc (.cells #[.int .i64 1, .int .i64 1] 3)).alloc (.cells #[.int .i64 2, .slice none 0 0, .slice (some ⟨wr.heap.size + 1, 0, none⟩) 2 2, .int .i64 0] 52)).alloc (.cells #[.int .i64 1, .int .i64 0, .int .i64 0, .int .i64 4, .int .i64 0, .int .i64 0, .int .i64 2, .int .i64 0, .int .i64 0] 82)).alloc (.cells #[.int .i64 1, .slice (some ⟨wr.heap.size + 1 + 1 + 1, 0, none⟩) 3 3, .slice none 0 0, .int .i64 0] 52)).alloc (.cells #[.slice (some ⟨wr.heap.size + 1 + 1, 0, none⟩) 1 1, .slice (some ⟨wr.heap.size + 1 + 1 + 1 + 1, 0, none⟩) 1 1] 48)) base (fun _ => True) (.slice (some ⟨wr.heap.size, 0, none⟩) 1 1) [1] :=
  xI (xs := [(1 : Int)]) (cs := [.int .i64 1]) (six0 _ _ _ _ _ _ _) hb trivial (by simp [maxLen]) ((yt.none _ _).snoc (p := (1 : Int)) (c := [.int .i64 1]) rfl rfl)
theorem zero_r1 (wr : World) (base : Nat) (hb : base ≤ wr.heap.size) : Kd.R (Kd.slice 52 k52) 48 ((((((wr.alloc (.cells #[.int .i64 1] 3)).alloc (.cells #[.int .i64 1, .int .i64 1] 3)).alloc (.cells #[.int .i64 2, .slice none 0 0, .slice (some ⟨wr.heap.size + 1, 0, none⟩) 2 2, .int .i64 0] 52)).alloc (.cells #[.int .i64 1, .int .i64 0, .int .i64 0, .int .i64 4, .int .i64 0, .int .i64 0, .int .i64 2, .int .i64 0, .int .i64 0] 82)).alloc (.cells #[.int .i64 1, .slice (some ⟨wr.heap.size + 1 + 1 + 1, 0, none⟩) 3 3, .slice none 0 0, .int .i64 0] 52)).alloc (.cells #[.slice (some ⟨wr.heap.size + 1 + 1, 0, none⟩) 1 1, .slice (some ⟨wr.heap.size + 1 + 1 + 1 + 1, 0, none⟩) 1 1] 48)) base (fun k => some k ≠ (Value.ownBlock (.slice (some ⟨wr.heap.size, 0, none⟩) 1 1))) (.slice (some ⟨wr.heap.size + 1 + 1 + 1 + 1 + 1, 0, none⟩) 2 2) ([[⟨2, [], [1, 1], 0⟩], [⟨1, [⟨1, 0, 0⟩, ⟨4, 0, 0⟩, ⟨2, 0, 0⟩], [], 0⟩]] : List (List S52)) := by
  have hv : Value.ownBlock (.slice (some ⟨wr.heap.size, 0, none⟩) 1 1) = some wr.heap.size := by simp [Value.ownBlock]
  have hk : Kd.R (Kd.int .i64) 3 ((((((wr.alloc (.cells #[.int .i64 1] 3)).alloc (.cells #[.int .i64 1, .int .i64 1] 3)).alloc (.cells #[.int .i64 2, .slice none 0 0, .slice (some ⟨wr.heap.size + 1, 0, none⟩) 2 2, .int .i64 0] 52)).alloc (.cells #[.int .i64 1, .int .i64 0, .int .i64 0, .int .i64 4, .int .i64 0, .int .i64 0, .int .i64 2, .int .i64 0, .int .i64 0] 82)).alloc (.cells #[.int .i64 1, .slice (some ⟨wr.heap.size + 1 + 1 + 1, 0, none⟩) 3 3, .slice none 0 0, .int .i64 0] 52)).alloc (.cells #[.slice (some ⟨wr.heap.size + 1 + 1, 0, none⟩) 1 1, .slice (some ⟨wr.heap.size + 1 + 1 + 1 + 1, 0, none⟩) 1 1] 48)) base (fun k => wr.heap.size < k ∧ k < wr.heap.size + 1 + 1) (.slice (some ⟨wr.heap.size + 1, 0, none⟩) 2 2) [1, 1] :=
    xI (xs := [(1 : Int), 1]) (cs := [.int .i64 1, .int .i64 1]) (six1 _ _ _ _ _ _ _) (by omega) (by omega) (by simp [maxLen]) (((yt.none _ _).snoc (p := (1 : Int)) (c := [.int .i64 1]) rfl rfl).snoc (p := (1 : Int)) (c := [.int .i64 1]) rfl rfl)
  have hd : Kd.R k82 82 ((((((wr.alloc (.cells #[.int .i64 1] 3)).alloc (.cells #[.int .i64 1, .int .i64 1] 3)).alloc (.cells #[.int .i64 2, .slice none 0 0, .slice (some ⟨wr.heap.size + 1, 0, none⟩) 2 2, .int .i64 0] 52)).alloc (.cells #[.int .i64 1, .int .i64 0, .int .i64 0, .int .i64 4, .int .i64 0, .int .i64 0, .int .i64 2, .int .i64 0, .int .i64 0] 82)).alloc (.cells #[.int .i64 1, .slice (some ⟨wr.heap.size + 1 + 1 + 1, 0, none⟩) 3 3, .slice none 0 0, .int .i64 0] 52)).alloc (.cells #[.slice (some ⟨wr.heap.size + 1 + 1, 0, none⟩) 1 1, .slice (some ⟨wr.heap.size + 1 + 1 + 1 + 1, 0, none⟩) 1 1] 48)) base (fun k => wr.heap.size < k ∧ k < wr.heap.size + 1 + 1 + 1 + 1) (.slice (some ⟨wr.heap.size + 1 + 1 + 1, 0, none⟩) 3 3) [⟨1, 0, 0⟩, ⟨4, 0, 0⟩, ⟨2, 0, 0⟩] :=
    xI (xs := ([⟨1, 0, 0⟩, ⟨4, 0, 0⟩, ⟨2, 0, 0⟩] : List S82)) (cs := [.int .i64 1, .int .i64 0, .int .i64 0, .int .i64 4, .int .i64 0, .int .i64 0, .int .i64 2, .int .i64 0, .int .i64 0]) (six3 _ _ _ _ _ _ _) (by omega) (by omega) (by simp [maxLen])
      ((((yt.none _ _).snoc (k82_mkM _ _ _ ⟨1, 0, 0⟩) rfl).snoc (k82_mkM _ _ _ ⟨4, 0, 0⟩) rfl).snoc (k82_mkM _ _ _ ⟨2, 0, 0⟩) rfl)
  have ha : Kd.R k52 52 ((((((wr.alloc (.cells #[.int .i64 1] 3)).alloc (.cells #[.int .i64 1, .int .i64 1] 3)).alloc (.cells #[.int .i64 2, .slice none 0 0, .slice (some ⟨wr.heap.size + 1, 0, none⟩) 2 2, .int .i64 0] 52)).alloc (.cells #[.int .i64 1, .int .i64 0, .int .i64 0, .int .i64 4, .int .i64 0, .int .i64 0, .int .i64 2, .int .i64 0, .int .i64 0] 82)).alloc (.cells #[.int .i64 1, .slice (some ⟨wr.heap.size + 1 + 1 + 1, 0, none⟩) 3 3, .slice none 0 0, .int .i64 0] 52)).alloc (.cells #[.slice (some ⟨wr.heap.size + 1 + 1, 0, none⟩) 1 1, .slice (some ⟨wr.heap.size + 1 + 1 + 1 + 1, 0, none⟩) 1 1] 48)) base (fun k => wr.heap.size < k ∧ k < wr.heap.size + 1 + 1 + 1 + 1 + 1) (.slice (some ⟨wr.heap.size + 1 + 1, 0, none⟩) 1 1) [⟨2, [], [1, 1], 0⟩] :=
    xI (xs := ([⟨2, [], [1, 1], 0⟩] : List S52)) (cs := [.int .i64 2, .slice none 0 0, .slice (some ⟨wr.heap.size + 1, 0, none⟩) 2 2, .int .i64 0]) (six2 _ _ _ _ _ _ _) (by omega) (by omega) (by simp [maxLen])
      ((yt.none _ _).snoc (p := (⟨2, [], [1, 1], 0⟩ : S52)) (xC _ _ _ ⟨2, [], [1, 1], 0⟩ (Kd.xG _ _ _ _ _) (Kd.zZ hk (fun k hk => ⟨by omega, by omega⟩))) rfl)
  have hb2 : Kd.R k52 52 ((((((wr.alloc (.cells #[.int .i64 1] 3)).alloc (.cells #[.int .i64 1, .int .i64 1] 3)).alloc (.cells #[.int .i64 2, .slice none 0 0, .slice (some ⟨wr.heap.size + 1, 0, none⟩) 2 2, .int .i64 0] 52)).alloc (.cells #[.int .i64 1, .int .i64 0, .int .i64 0, .int .i64 4, .int .i64 0, .int .i64 0, .int .i64 2, .int .i64 0, .int .i64 0] 82)).alloc (.cells #[.int .i64 1, .slice (some ⟨wr.heap.size + 1 + 1 + 1, 0, none⟩) 3 3, .slice none 0 0, .int .i64 0] 52)).alloc (.cells #[.slice (some ⟨wr.heap.size + 1 + 1, 0, none⟩) 1 1, .slice (some ⟨wr.heap.size + 1 + 1 + 1 + 1, 0, none⟩) 1 1] 48)) base (fun k => wr.heap.size < k ∧ k < wr.heap.size + 1 + 1 + 1 + 1 + 1) (.slice (some ⟨wr.heap.size + 1 + 1 + 1 + 1, 0, none⟩) 1 1) [⟨1, [⟨1, 0, 0⟩, ⟨4, 0, 0⟩, ⟨2, 0, 0⟩], [], 0⟩] :=
    xI (xs := ([⟨1, [⟨1, 0, 0⟩, ⟨4, 0, 0⟩, ⟨2, 0, 0⟩], [], 0⟩] : List S52)) (cs := [.int .i64 1, .slice (some ⟨wr.heap.size + 1 + 1 + 1, 0, none⟩) 3 3, .slice none 0 0, .int .i64 0]) (six4 _ _ _ _ _ _ _) (by omega) (by omega) (by simp [maxLen])
      ((yt.none _ _).snoc (p := (⟨1, [⟨1, 0, 0⟩, ⟨4, 0, 0⟩, ⟨2, 0, 0⟩], [], 0⟩ : S52)) (xC _ _ _ ⟨1, [⟨1, 0, 0⟩, ⟨4, 0, 0⟩, ⟨2, 0, 0⟩], [], 0⟩ (Kd.zZ hd (fun k hk => ⟨by omega, by omega⟩)) (Kd.xG _ _ _ _ _)) rfl)
  exact xI (xs := ([[⟨2, [], [1, 1], 0⟩], [⟨1, [⟨1, 0, 0⟩, ⟨4, 0, 0⟩, ⟨2, 0, 0⟩], [], 0⟩]] : List (List S52))) (cs := [.slice (some ⟨wr.heap.size + 1 + 1, 0, none⟩) 1 1, .slice (some ⟨wr.heap.size + 1 + 1 + 1 + 1, 0, none⟩) 1 1]) (six5 _ _ _ _ _ _ _) (by omega) (fun e => by rw [hv] at e; injection e with e; omega) (by simp [maxLen])
    (((yt.none _ _).snoc (Kd.M_row (Kd.zZ ha (fun k hk => ⟨fun e => by rw [hv] at e; injection e with e; omega, by omega⟩))) rfl).snoc (Kd.M_row (Kd.zZ hb2 (fun k hk => ⟨fun e => by rw [hv] at e; injection e with e; omega, by omega⟩))) rfl)
set_option maxHeartbeats 8000000 in
set_option maxRecDepth 100000 in
theorem xx.calls (k : Nat) (g : Nat) (s0_0 : List Int) (s0_1 : Int) (r1 : List Int) (r2 : List (List S52)) (r3 : Int) (w0 w : World) (hI : ze w0 w g s0_0 s0_1) (hB : Below w0.heap.size w0 w) (h : xx.f k s0_0 s0_1 = some (r1, r2, r3)) :
    Calls Tryd.prog 55 #[.pointer (some ⟨g, 0, none⟩)] w fun e w' => ∃ v0_ v1_ : Value, e = .returned (.agg #[v0_, v1_]) ∧ Kd.R (Kd.int .i64) 3 w' w.heap.size (fun _ => True) v0_ r1 ∧ Kd.R (Kd.slice 52 k52) 48 w' w.heap.size (fun k_ => some k_ ≠ (v0_ : Value).ownBlock) v1_ r2 ∧ ze w0 w' g s0_0 r3 ∧ Below w0.heap.size w0 w' ∧ zk w w' g none := by
  unfold xx.f at h
  have hu36 := Tryd.underlying30
  have HV0 := za.mk hB.size
  go_enter Tryd.func55, Tryd.ntmps55
  go_wp2
  obtain ⟨V, hV⟩ : ∃ V, V = w.alloc (.cells #[.slice none 0 0, .slice none 0 0] 30) := ⟨_, rfl⟩
  have HVG := za.mk (show g < w.heap.size from ze.lt hI)
  have HV00 := za.mk HV0.out
  have HVS := za.mk (show V.heap.size = w.heap.size + 1 by rw [hV]; simp)
  have HVB := za.mk (show V.heap[w.heap.size]? = some (.cells #[.slice none 0 0, .slice none 0 0] 30 (0, 0)) by rw [hV]; exact heap_alloc_new _ _)
  have HVK := za.mk (show zk w V g none by rw [hV]; exact zt (zk.refl _ _ _) _)
  have HVI := za.mk (show ze w0 V g s0_0 s0_1 by rw [hV]; exact hI.alloc _)
  have HVW := za.mk (show Below w0.heap.size w0 V by rw [hV]; exact zc hB _)
  rw [← hV]
  have HV0 := za.mk (show w0.heap.size ≤ V.heap.size by have := HV0.out; rw [HVS.out]; omega)
  clear hI hB hV
  go_loopg [3] 10 (fun n v3 w' => ∃ (i p : Int), v3 = .int .i64 i ∧ za (i = 10 - n ∧ n ≤ 10) ∧ za (progF k s0_0 n p = some (r1, r2, r3)) ∧ za (ze w0 w' g s0_0 p) ∧ za (Below w0.heap.size w0 w') ∧ za (zk V w' g none))
  case atStart => exact ⟨0, s0_1, rfl, ⟨by simp⟩, ⟨h⟩, HVI, HVW, ⟨zk.refl _ _ _⟩⟩
  case round =>
    clear h HVI HVW
    obtain ⟨i, p, rfl, hi, H, HI, HB, HK⟩ := hrel
    cases gk with
    | zero =>
      have c : decide (i < 10) = false := by have := hi.out; exact decide_eq_false (by omega)
      have H := H.out
      simp only [progF, Option.some.injEq, Prod.mk.injEq] at H
      obtain ⟨hr1, hr2, hr3⟩ := H
      subst hr1 hr2 hr3
      have hs6 := six_below wr (.cells #[.int .i64 1] 3) (.cells #[.int .i64 1, .int .i64 1] 3) (.cells #[.int .i64 2, .slice none 0 0, .slice (some ⟨wr.heap.size + 1, 0, none⟩) 2 2, .int .i64 0] 52) (.cells #[.int .i64 1, .int .i64 0, .int .i64 0, .int .i64 4, .int .i64 0, .int .i64 0, .int .i64 2, .int .i64 0, .int .i64 0] 82) (.cells #[.int .i64 1, .slice (some ⟨wr.heap.size + 1 + 1 + 1, 0, none⟩) 3 3, .slice none 0 0, .int .i64 0] 52) (.cells #[.slice (some ⟨wr.heap.size + 1 + 1, 0, none⟩) 1 1, .slice (some ⟨wr.heap.size + 1 + 1 + 1 + 1, 0, none⟩) 1 1] 48)
      have hI6 := ze.below HI.out hs6
      have hB6 := xe HB.out HB.out.size hs6
      have hK6 := HK.out.trans (zk.of_below hs6 g none) (.inl rfl)
      have hle := z7 HK.out
      have hD := done2 hI6 hB6 hK6 (zero_r0 wr V.heap.size hle) (zero_r1 wr V.heap.size hle) HVS.out HVB.out HVK.out rfl (by have := HVG.out; omega) (by have := HV00.out; omega)
      have hbR := hK6.blk HVB.out (by have := HVG.out; omega) (by simp)
      have hbS := yT hbR 0 (.slice (some ⟨wr.heap.size, 0, none⟩) 1 1)
      have hd0 : ((((((wr.alloc (.cells #[.int .i64 1] 3)).alloc (.cells #[.int .i64 1, .int .i64 1] 3)).alloc (.cells #[.int .i64 2, .slice none 0 0, .slice (some ⟨wr.heap.size + 1, 0, none⟩) 2 2, .int .i64 0] 52)).alloc (.cells #[.int .i64 1, .int .i64 0, .int .i64 0, .int .i64 4, .int .i64 0, .int .i64 0, .int .i64 2, .int .i64 0, .int .i64 0] 82)).alloc (.cells #[.int .i64 1, .slice (some ⟨wr.heap.size + 1 + 1 + 1, 0, none⟩) 3 3, .slice none 0 0, .int .i64 0] 52)).alloc (.cells #[.slice (some ⟨wr.heap.size + 1 + 1, 0, none⟩) 1 1, .slice (some ⟨wr.heap.size + 1 + 1 + 1 + 1, 0, none⟩) 1 1] 48)).cell? ⟨w.heap.size, 0, none⟩ = some (.slice none 0 0) := (zf hbR 0).trans rfl
      have hf0 : ((((((wr.alloc (.cells #[.int .i64 1] 3)).alloc (.cells #[.int .i64 1, .int .i64 1] 3)).alloc (.cells #[.int .i64 2, .slice none 0 0, .slice (some ⟨wr.heap.size + 1, 0, none⟩) 2 2, .int .i64 0] 52)).alloc (.cells #[.int .i64 1, .int .i64 0, .int .i64 0, .int .i64 4, .int .i64 0, .int .i64 0, .int .i64 2, .int .i64 0, .int .i64 0] 82)).alloc (.cells #[.int .i64 1, .slice (some ⟨wr.heap.size + 1 + 1 + 1, 0, none⟩) 3 3, .slice none 0 0, .int .i64 0] 52)).alloc (.cells #[.slice (some ⟨wr.heap.size + 1 + 1, 0, none⟩) 1 1, .slice (some ⟨wr.heap.size + 1 + 1 + 1 + 1, 0, none⟩) 1 1] 48)).frozen? ⟨w.heap.size, 0, none⟩ = false := zg hbR 0
      have hd1 : (((((((wr.alloc (.cells #[.int .i64 1] 3)).alloc (.cells #[.int .i64 1, .int .i64 1] 3)).alloc (.cells #[.int .i64 2, .slice none 0 0, .slice (some ⟨wr.heap.size + 1, 0, none⟩) 2 2, .int .i64 0] 52)).alloc (.cells #[.int .i64 1, .int .i64 0, .int .i64 0, .int .i64 4, .int .i64 0, .int .i64 0, .int .i64 2, .int .i64 0, .int .i64 0] 82)).alloc (.cells #[.int .i64 1, .slice (some ⟨wr.heap.size + 1 + 1 + 1, 0, none⟩) 3 3, .slice none 0 0, .int .i64 0] 52)).alloc (.cells #[.slice (some ⟨wr.heap.size + 1 + 1, 0, none⟩) 1 1, .slice (some ⟨wr.heap.size + 1 + 1 + 1 + 1, 0, none⟩) 1 1] 48)).setCell ⟨w.heap.size, 0, none⟩ (.slice (some ⟨wr.heap.size, 0, none⟩) 1 1)).cell? ⟨w.heap.size, 1, none⟩ = some (.slice none 0 0) := (zf hbS 1).trans rfl
      have hf1 : (((((((wr.alloc (.cells #[.int .i64 1] 3)).alloc (.cells #[.int .i64 1, .int .i64 1] 3)).alloc (.cells #[.int .i64 2, .slice none 0 0, .slice (some ⟨wr.heap.size + 1, 0, none⟩) 2 2, .int .i64 0] 52)).alloc (.cells #[.int .i64 1, .int .i64 0, .int .i64 0, .int .i64 4, .int .i64 0, .int .i64 0, .int .i64 2, .int .i64 0, .int .i64 0] 82)).alloc (.cells #[.int .i64 1, .slice (some ⟨wr.heap.size + 1 + 1 + 1, 0, none⟩) 3 3, .slice none 0 0, .int .i64 0] 52)).alloc (.cells #[.slice (some ⟨wr.heap.size + 1 + 1, 0, none⟩) 1 1, .slice (some ⟨wr.heap.size + 1 + 1 + 1 + 1, 0, none⟩) 1 1] 48)).setCell ⟨w.heap.size, 0, none⟩ (.slice (some ⟨wr.heap.size, 0, none⟩) 1 1)).frozen? ⟨w.heap.size, 1, none⟩ = false := zg hbS 1
      clear hs6 hI6 hB6 hK6
      have hD := za.mk hD
      go_wp2_with (fail)
      exact bodyPost_ret (results_cell_row rfl _ _ w.heap.size 30 _ (0, 0) _ rfl hD.out.1 Tryd.underlying30 rfl (show (Tryd.prog.info? 30).map (·.size) = some 2 by kernel_rfl)) rfl ⟨_, _, rfl, hD.out.2⟩
    | succ n =>
      have c : decide (i < 10) = true := by have := hi.out; exact decide_eq_true (by omega)
      have H := H.out
      simp only [progF] at H
      replace H := Option.bind_eq_some_iff.mp H
      obtain ⟨⟨l0, l1, q⟩, H1, H2⟩ := H
      unfold oneF at H1
      replace H1 := Option.bind_eq_some_iff.mp H1
      obtain ⟨⟨t1, q1⟩, P1, H1⟩ := H1
      have P1 := za.mk P1
      have c1 : 0 ≤ t1 ∧ t1 < 3 := Classical.byContradiction fun c1 => by rw [if_neg c1] at H1; exact absurd H1 (by simp)
      rw [if_pos c1] at H1
      replace H1 := Option.bind_eq_some_iff.mp H1
      obtain ⟨⟨lc, q2⟩, CF, H1⟩ := H1
      have CF := za.mk (show cellsF k s0_0 (1 + t1).toNat [] q1 = some (lc, q2) from CF)
      replace H1 := Option.bind_eq_some_iff.mp H1
      obtain ⟨⟨t2, q3⟩, P2, H1⟩ := H1
      have P2 := za.mk (show zi.f k s0_0 q2 3 = some (t2, q3) from P2)
      have c2 : 0 ≤ t2 ∧ t2 < 3 := Classical.byContradiction fun c1 => by rw [if_neg c1] at H1; exact absurd H1 (by simp)
      rw [if_pos c2] at H1
      replace H1 := Option.bind_eq_some_iff.mp H1
      obtain ⟨⟨lb, q4⟩, BF, FF⟩ := H1
      have BF := za.mk (show bodiesF k s0_0 (2 + t2) (1 + t1) (2 + t2).toNat 0 [] q3 = some (lb, q4) from BF)
      have FF := za.mk (show forkF k s0_0 (2 + t2) (1 + t1) lc lb q4 = some (l0, l1, q) from FF)
      have ei : wrap64 (i + 1) = i + 1 := by have := hi.out; unfold wrap64; omega
      have e1 : wrap64 (1 + t1) = 1 + t1 := by unfold wrap64; omega
      have e2 : wrap64 (2 + t2) = 2 + t2 := by unfold wrap64; omega
      have e1 := za.mk e1
      have e2 := za.mk e2
      have c1 := za.mk c1
      have c2 := za.mk c2
      have H2 := za.mk H2
      have HG := za.mk (PG.start HI.out HB.out HK.out HV0.out)
      clear HI HB HK H
      go_wp2_with (fail)
      refine (zi.calls k g s0_0 p 3 t1 q1 w0 _ HG.out.I HG.out.B P1.out).mono ?_
      rintro e w1 ⟨rfl, hi1, hb1, hk1⟩
      have HG1 := za.mk (HG.out.keep hi1 hb1 hk1)
      clear HG hi1 hb1 hk1 P1
      obtain ⟨D, hD⟩ : ∃ D, D = wr.heap.size + 1 := ⟨_, rfl⟩
      obtain ⟨vz, hvz⟩ : ∃ vz : Value, vz = .slice (some ⟨wr.heap.size, 0, none⟩) 0 0 := ⟨_, rfl⟩
      rw [← hD, ← hvz] at HG1 ⊢
      clear hD hvz
      go_wp2
      try rw [e1.out]
      go_loopg [6] (1 + t1).toNat (fun m v6 w' => ∃ (j p : Int) (l : List Int) (v0 : Value), v6 = .int .i64 j ∧ za (j + m = 1 + t1 ∧ 0 ≤ j ∧ j = l.length) ∧ za (cellsF k s0_0 m l p = some (lc, q2)) ∧ za (PG w0 V w' g D s0_0 p v0 (.slice none 0 0) l []))
      case atStart => exact ⟨0, q1, [], vz, rfl, ⟨by have := c1.out; simp; omega⟩, CF, HG1⟩
      case round =>
        clear HG1 CF
        obtain ⟨j, pc, l, v0, rfl, hj, CF, HG⟩ := hrel
        cases gk with
        | zero =>
          have c : decide (j < 1 + t1) = false := by have := hj.out; exact decide_eq_false (by omega)
          have CF := CF.out
          simp only [cellsF, Option.some.injEq, Prod.mk.injEq] at CF
          obtain ⟨hl, hp⟩ := CF
          subst hl hp
          have c : decide (j < 1 + t1) = false := c
          go_wp2_with (fail)
          refine (zi.calls k g s0_0 pc 3 t2 q3 w0 _ HG.out.I HG.out.B P2.out).mono ?_
          rintro e w2 ⟨rfl, hi1, hb1, hk1⟩
          have HG1 := za.mk (HG.out.keep hi1 hb1 hk1)
          clear HG hi1 hb1 hk1 P2 c hj
          go_wp2
          try rw [e2.out]
          go_loopg [8] (2 + t2).toNat (fun m v8 w' => ∃ (j p : Int) (L : List (List S52)) (v1 : Value), v8 = .int .i64 j ∧ za (j + m = 2 + t2 ∧ 0 ≤ j ∧ j = L.length) ∧ za (bodiesF k s0_0 (2 + t2) (1 + t1) m j L p = some (lb, q4)) ∧ za (PG w0 V w' g D s0_0 p v0 v1 l L))
          case atStart => exact ⟨0, q3, [], .slice none 0 0, rfl, ⟨by have := c2.out; simp; omega⟩, BF, HG1⟩
          case round =>
            clear HG1 BF
            obtain ⟨j, pb, L, v1, rfl, hj, BF, HG⟩ := hrel
            cases gk with
            | zero =>
              have c : decide (j < 2 + t2) = false := by have := hj.out; exact decide_eq_false (by omega)
              have BF := BF.out
              simp only [bodiesF, Option.some.injEq, Prod.mk.injEq] at BF
              obtain ⟨hL, hq⟩ := BF
              subst hL hq
              have FF := FF.out
              unfold forkF at FF
              replace FF := Option.bind_eq_some_iff.mp FF
              obtain ⟨⟨te, qe⟩, P3, FF⟩ := FF
              have P3 := za.mk (show zi.f k s0_0 pb 4 = some (te, qe) from P3)
              have FF := za.mk FF
              go_wp2_with (fail)
              refine (zi.calls k g s0_0 pb 4 te qe w0 _ HG.out.I HG.out.B P3.out).mono ?_
              rintro e w3 ⟨rfl, hi1, hb1, hk1⟩
              have HG3 := za.mk (HG.out.keep hi1 hb1 hk1)
              have HL := za.mk (show 0 < L.length by have h1 := hj.out; have h2 := c2.out; omega)
              clear HG hi1 hb1 hk1 P3 c hj
              by_cases hte : te > 0
              · have FF := FF.out
                rw [if_pos hte] at FF
                have FF := za.mk FF
                have c3 : decide (0 < te) = true := decide_eq_true hte
                have FF := FF.out
                replace FF := Option.bind_eq_some_iff.mp FF
                obtain ⟨⟨x, qx⟩, P4, FF⟩ := FF
                have c4 : 0 ≤ x ∧ x < 4 := Classical.byContradiction fun c1 => by rw [if_neg c1] at FF; exact absurd FF (by simp)
                rw [if_pos c4] at FF
                replace FF := Option.bind_eq_some_iff.mp FF
                obtain ⟨⟨ys, qy⟩, P5, FF⟩ := FF
                simp only [Option.some.injEq, Prod.mk.injEq] at FF
                obtain ⟨hf1, hf2, hf3⟩ := FF
                subst hf1 hf2 hf3
                have e3 : wrap64 (2 + t2 - 1) = 2 + t2 - 1 := by have h2 := c2.out; unfold wrap64; omega
                have e5 : wrap64 (1 + x) = 1 + x := by unfold wrap64; omega
                have P4 := za.mk (show zi.f k s0_0 qe (wrap64 (2 + t2 - 1)) = some (x, qx) by rw [e3]; exact P4)
                have P5 := za.mk (show zJ.f k s0_0 qx (1 + t1) = some (ys, qy) from P5)
                have e5 := za.mk e5
                clear e3
                obtain ⟨B, cB, hv1, _, _, _⟩ := Kd.R_form HG3.out.r1 HL.out
                subst hv1
                have HBc : ∀ {w' : World} {p' : Int}, PG w0 V w' g D s0_0 p' v0 (.slice (some ⟨B, 0, none⟩) L.length cB) l L → ∃ u0 : Value, (∀ o, (w'.alloc o).cell? ⟨B, 0, none⟩ = some u0) ∧ (∀ o, (w'.alloc o).frozen? ⟨B, 0, none⟩ = false) := by
                  intro w' p' h'
                  obtain ⟨cc, hcl, _, hcc, hfr⟩ := Kd.R_elem h'.r1 ([] : List S52) 0 (by decide) (by have := HL.out; omega)
                  have hc1 : cc.length = 1 := hcl
                  obtain ⟨cells, hbb⟩ := Kd.R_typed h'.r1 B (by simp [Value.ownBlock])
                  match cc, hc1 with
                  | [u0], _ =>
                    have h0 := hcc 0 u0 rfl
                    refine ⟨u0, fun o => ?_, fun o => zg (zj hbb o) 0⟩
                    have h1 := zf hbb 0
                    have h2 := zf (zj hbb o) 0
                    exact h2.trans (h1.symm.trans h0)
                have hlN : 0 < L.length := HL.out
                have HBc := @HBc
                go_upto_region 16 with (fail)
                refine xi (n := 16) (S := fun w' => w'.cell? ⟨D, 1, none⟩ = some (.slice (some ⟨B, 0, none⟩) L.length cB)) (ds := [15]) #[false, false, false, false, false, false, false, false, false, false, false, false, false, false, false, false] (by kernel_rfl) rfl rfl ((PG.cell1 (PG.drew HG3.out))) (fun hHeld => ?_)
                refine zF (i := 0) (N := some 54) (v := ?_) (a' := ?_) #[true, false, false, false, false, false, false, false, false, false, false, false, false, false, false, false] rfl rfl (by kernel_rfl) (fun _ _ _ h => h) (Or.inl ⟨by rfl, ?_⟩) ?_ ?_
                rotate_left
                · intro w'
                  go_simp
                  with_reducible rfl
                rotate_left
                · simp only [Act.put, List.setIfInBounds_toArray, List.set_cons_zero, List.set_cons_succ, zn, zo]
                  rfl
                refine zF (i := 2) (N := some 56) (v := ?_) (a' := ?_) #[true, false, true, false, false, false, false, false, false, false, false, false, false, false, false, false] rfl rfl (by kernel_rfl) (fun _ _ _ h => h) (Or.inl ⟨by rfl, ?_⟩) ?_ ?_
                rotate_left
                · intro w'
                  go_simp
                  with_reducible rfl
                rotate_left
                · simp only [Act.put, List.setIfInBounds_toArray, List.set_cons_zero, List.set_cons_succ, zn, zo]
                  rfl
                refine zF (i := 3) (N := some 57) (v := ?_) (a' := ?_) #[true, false, true, true, false, false, false, false, false, false, false, false, false, false, false, false] rfl rfl (by kernel_rfl) (fun _ _ _ h => h) (Or.inl ⟨by rfl, ?_⟩) ?_ ?_
                rotate_left
                · intro w'
                  go_simp
                  with_reducible rfl
                rotate_left
                · simp only [Act.put, List.setIfInBounds_toArray, List.set_cons_zero, List.set_cons_succ, zn, zo]
                  rfl
                refine zF (i := 4) (N := some 58) (v := ?_) (a' := ?_) #[true, false, true, true, true, false, false, false, false, false, false, false, false, false, false, false] rfl rfl (by kernel_rfl) (fun _ _ _ h => h) (Or.inl ⟨by rfl, ?_⟩) ?_ ?_
                rotate_left
                · intro w'
                  go_simp
                  with_reducible rfl
                rotate_left
                · simp only [Act.put, List.setIfInBounds_toArray, List.set_cons_zero, List.set_cons_succ, zn, zo]
                  rfl
                refine zF (i := 9) (N := some 63) (v := ?_) (a' := ?_) #[true, false, true, true, true, false, false, false, false, true, false, false, false, false, false, false] rfl rfl (by kernel_rfl) (fun _ _ _ h => h) (Or.inl ⟨by rfl, ?_⟩) ?_ ?_
                rotate_left
                · intro w'
                  go_simp
                  with_reducible rfl
                rotate_left
                · simp only [Act.put, List.setIfInBounds_toArray, List.set_cons_zero, List.set_cons_succ, zn, zo]
                  rfl
                refine zF (i := 10) (N := some 64) (v := ?_) (a' := ?_) #[true, false, true, true, true, false, false, false, false, true, true, false, false, false, false, false] rfl rfl (by kernel_rfl) (fun _ _ _ h => h) (Or.inl ⟨by rfl, ?_⟩) ?_ ?_
                rotate_left
                · intro w'
                  go_simp
                  with_reducible rfl
                rotate_left
                · simp only [Act.put, List.setIfInBounds_toArray, List.set_cons_zero, List.set_cons_succ, zn, zo]
                  rfl
                refine yK (i := 1) (N := some 55) (v := ?_) (a' := ?_) #[true, true, true, true, true, false, false, false, false, true, true, false, false, false, false, false] rfl rfl (by kernel_rfl) (fun _ _ _ h => h) (Or.inl ⟨by rfl, ?_⟩) hHeld ?_ ?_
                rotate_left
                · intro w' s0
                  go_simp
                  with_reducible rfl
                rotate_left
                · simp only [Act.put, List.setIfInBounds_toArray, List.set_cons_zero, List.set_cons_succ, zn, zo]
                  rfl
                refine yM (i := 5) (N := some 59) #[true, true, true, true, true, true, false, false, false, true, true, false, false, false, false, false] rfl rfl (by kernel_rfl) (by decide) (fun K hK => ?_)
                refine y7 Tryd.func56 (by kernel_rfl) rfl #[.pointer (some ⟨g, 0, none⟩), .int .i64 (wrap64 (2 + t2 - 1))] (by rfl) rfl rfl (by simp only [List.map_toArray, List.map_cons, List.map_nil]; rfl) ?_
                with_reducible refine (zi.calls k g s0_0 qe (wrap64 (2 + t2 - 1)) x qx w0 _ (PG.I (by repeat (first | exact HG3.out | apply PG.alloc | apply PG.drew))) (PG.B (by repeat (first | exact HG3.out | apply PG.alloc | apply PG.drew))) P4.out).mono ?_
                rintro e w5 ⟨rfl, hi5, hb5, hk5⟩
                refine ⟨_, rfl, ?_⟩
                have HG5 := za.mk (PG.keep (by repeat (first | exact HG3.out | apply PG.alloc | apply PG.drew)) hi5 hb5 hk5)
                clear hi5 hb5 hk5
                refine hK.out _ _ ((PG.cell1 HG5.out)) (fun hHeld => ?_)
                clear hK K
                refine zQ (a' := ?_) ?_ ?_
                rotate_left
                · show Act.put _ (some 59) _ = _
                  simp only [Act.put, List.setIfInBounds_toArray, List.set_cons_zero, List.set_cons_succ, zn, zo]
                  rfl
                refine zF (i := 6) (N := some 60) (v := ?_) (a' := ?_) #[true, true, true, true, true, true, true, false, false, true, true, false, false, false, false, false] rfl rfl (by kernel_rfl) (fun _ _ _ h => h) (Or.inl ⟨by rfl, ?_⟩) ?_ ?_
                rotate_left
                · intro w'
                  go_simp
                  with_reducible rfl
                rotate_left
                · simp only [Act.put, List.setIfInBounds_toArray, List.set_cons_zero, List.set_cons_succ, zn, zo]
                  rfl
                refine join_ (σ := Nat × Value) 3 #[true, true, true, true, true, true, true, true, true, true, true, true, true, false, false, false] (fun s => [(61, .slice (some ⟨s.1, 0, none⟩) 2 2), (65, s.2), (62, .agg #[.int .i64 2, .slice none 0 0, .slice (some ⟨s.1, 0, none⟩) 2 2, .int .i64 0]), (66, .agg #[.int .i64 1, s.2, .slice none 0 0, .int .i64 0])]) (fun s w' => w'.cell? ⟨D, 1, none⟩ = some (.slice (some ⟨B, 0, none⟩) L.length cB) ∧ za (PG w0 V w' g D s0_0 qy v0 (.slice (some ⟨B, 0, none⟩) L.length cB) l L) ∧ za (w'.heap[s.1]? = some (.cells #[.int .i64 1, .int .i64 (1 + x)] 3 (0, 0))) ∧ za (w5.heap.size ≤ s.1) ∧ za (Kd.R k82 82 w' w5.heap.size (fun _ => True) s.2 ys)) ?_ ?_
                rotate_left
                · intro hCont
                  refine two_ (i := 7) (j := 11) (Ni := some 61) (Nj := some 65) #[true, true, true, true, true, true, true, true, false, true, true, false, false, false, false, false] #[true, true, true, true, true, true, true, false, false, true, true, true, false, false, false, false] rfl rfl rfl rfl (by kernel_rfl) (by decide) (by decide) (fun K hK => ?_) (fun K hK => ?_)
                  · skip
                    refine yI (w1 := ?_) (v := ?_) (by rfl) rfl ?_ ?_
                    rotate_left 2
                    · go_simp
                      constructor
                      · rfl
                      · rfl
                    refine hK.out _ _ ((PG.cell1 (PG.alloc HG5.out _))) (fun hHeld => ?_)
                    clear hK K
                    refine zQ (a' := ?_) ?_ ?_
                    rotate_left
                    · show Act.put _ (some 61) _ = _
                      simp only [Act.put, List.setIfInBounds_toArray, List.set_cons_zero, List.set_cons_succ, zn, zo]
                      rfl
                    refine zF (i := 8) (N := some 62) (v := ?_) (a' := ?_) #[true, true, true, true, true, true, true, true, true, true, true, false, false, false, false, false] rfl rfl (by kernel_rfl) (fun _ _ _ h => h) (Or.inl ⟨by rfl, ?_⟩) ?_ ?_
                    rotate_left
                    · intro w'
                      go_simp
                      with_reducible rfl
                    rotate_left
                    · simp only [Act.put, List.setIfInBounds_toArray, List.set_cons_zero, List.set_cons_succ, zn, zo]
                      rfl
                    refine yM (i := 11) (N := some 65) #[true, true, true, true, true, true, true, true, true, true, true, true, false, false, false, false] rfl rfl (by kernel_rfl) (by decide) (fun K hK => ?_)
                    refine y7 Tryd.func76 (by kernel_rfl) rfl #[.pointer (some ⟨g, 0, none⟩), .int .i64 (1 + t1)] (by rfl) rfl rfl (by simp only [List.map_toArray, List.map_cons, List.map_nil]; rfl) ?_
                    with_reducible refine (zJ.calls k g s0_0 qx (1 + t1) ys qy w0 _ (PG.I (by repeat (first | exact HG5.out | apply PG.alloc | apply PG.drew))) (PG.B (by repeat (first | exact HG5.out | apply PG.alloc | apply PG.drew))) P5.out).mono ?_
                    rintro e w7 ⟨vd, rfl, hD7, hi7, hb7, hk7⟩
                    refine ⟨_, rfl, ?_⟩
                    obtain ⟨Ad, cd, hvd⟩ := Kd.yn hD7
                    subst hvd
                    have HG7 := za.mk (PG.keep (by repeat (first | exact HG5.out | apply PG.alloc | apply PG.drew)) hi7 hb7 hk7)
                    refine hK.out _ _ ((PG.cell1 HG7.out)) (fun hHeld => ?_)
                    clear hK K
                    refine zQ (a' := ?_) ?_ ?_
                    rotate_left
                    · show Act.put _ (some 65) _ = _
                      simp only [Act.put, List.setIfInBounds_toArray, List.set_cons_zero, List.set_cons_succ, zn, zo]
                      rfl
                    refine zF (i := 12) (N := some 66) (v := ?_) (a' := ?_) #[true, true, true, true, true, true, true, true, true, true, true, true, true, false, false, false] rfl rfl (by kernel_rfl) (fun _ _ _ h => h) (Or.inl ⟨by rfl, ?_⟩) ?_ ?_
                    rotate_left
                    · intro w'
                      go_simp
                      with_reducible rfl
                    rotate_left
                    · simp only [Act.put, List.setIfInBounds_toArray, List.set_cons_zero, List.set_cons_succ, zn, zo]
                      rfl
                    exact zQ (by simp only [yZ, Act.put, List.setIfInBounds_toArray, List.set_cons_zero, List.set_cons_succ]) (hCont (w5.heap.size, .slice Ad ys.length cd) _ ⟨PG.cell1 HG7.out, HG7, ⟨hk7.blk (heap_alloc_new _ _) (Nat.ne_of_gt (ze.lt HG5.out.I)) (by simp)⟩, ⟨Nat.le_refl _⟩, ⟨Kd.yq hD7 (by simp)⟩⟩)
                  · skip
                    refine y7 Tryd.func76 (by kernel_rfl) rfl #[.pointer (some ⟨g, 0, none⟩), .int .i64 (1 + t1)] (by rfl) rfl rfl (by simp only [List.map_toArray, List.map_cons, List.map_nil]; rfl) ?_
                    with_reducible refine (zJ.calls k g s0_0 qx (1 + t1) ys qy w0 _ (PG.I (by repeat (first | exact HG5.out | apply PG.alloc | apply PG.drew))) (PG.B (by repeat (first | exact HG5.out | apply PG.alloc | apply PG.drew))) P5.out).mono ?_
                    rintro e w7 ⟨vd, rfl, hD7, hi7, hb7, hk7⟩
                    refine ⟨_, rfl, ?_⟩
                    obtain ⟨Ad, cd, hvd⟩ := Kd.yn hD7
                    subst hvd
                    have HG7 := za.mk (PG.keep (by repeat (first | exact HG5.out | apply PG.alloc | apply PG.drew)) hi7 hb7 hk7)
                    refine hK.out _ _ ((PG.cell1 HG7.out)) (fun hHeld => ?_)
                    clear hK K
                    refine zQ (a' := ?_) ?_ ?_
                    rotate_left
                    · show Act.put _ (some 65) _ = _
                      simp only [Act.put, List.setIfInBounds_toArray, List.set_cons_zero, List.set_cons_succ, zn, zo]
                      rfl
                    refine zF (i := 12) (N := some 66) (v := ?_) (a' := ?_) #[true, true, true, true, true, true, true, false, false, true, true, true, true, false, false, false] rfl rfl (by kernel_rfl) (fun _ _ _ h => h) (Or.inl ⟨by rfl, ?_⟩) ?_ ?_
                    rotate_left
                    · intro w'
                      go_simp
                      with_reducible rfl
                    rotate_left
                    · simp only [Act.put, List.setIfInBounds_toArray, List.set_cons_zero, List.set_cons_succ, zn, zo]
                      rfl
                    refine yM (i := 7) (N := some 61) #[true, true, true, true, true, true, true, true, false, true, true, true, true, false, false, false] rfl rfl (by kernel_rfl) (by decide) (fun K hK => ?_)
                    refine yI (w1 := ?_) (v := ?_) (by rfl) rfl ?_ ?_
                    rotate_left 2
                    · go_simp
                      constructor
                      · rfl
                      · rfl
                    refine hK.out _ _ ((PG.cell1 (PG.alloc HG7.out _))) (fun hHeld => ?_)
                    clear hK K
                    refine zQ (a' := ?_) ?_ ?_
                    rotate_left
                    · show Act.put _ (some 61) _ = _
                      simp only [Act.put, List.setIfInBounds_toArray, List.set_cons_zero, List.set_cons_succ, zn, zo]
                      rfl
                    refine zF (i := 8) (N := some 62) (v := ?_) (a' := ?_) #[true, true, true, true, true, true, true, true, true, true, true, true, true, false, false, false] rfl rfl (by kernel_rfl) (fun _ _ _ h => h) (Or.inl ⟨by rfl, ?_⟩) ?_ ?_
                    rotate_left
                    · intro w'
                      go_simp
                      with_reducible rfl
                    rotate_left
                    · simp only [Act.put, List.setIfInBounds_toArray, List.set_cons_zero, List.set_cons_succ, zn, zo]
                      rfl
                    exact zQ (by simp only [yZ, Act.put, List.setIfInBounds_toArray, List.set_cons_zero, List.set_cons_succ]) (hCont (w7.heap.size, .slice Ad ys.length cd) _ ⟨PG.cell1 (PG.alloc HG7.out _), ⟨PG.alloc HG7.out _⟩, ⟨heap_alloc_new _ _⟩, ⟨z7 hk7⟩, ⟨Kd.zE hD7 _⟩⟩)
                rintro ⟨sk, sd⟩ wj ⟨hHeld, HGj, hbk, hsk, hds⟩
                obtain ⟨Ad, cd, hvd⟩ := Kd.yn hds.out
                subst hvd
                have hbB := HBc HGj.out
                obtain ⟨u0, hu0⟩ := hbB
                have hcB : (wj.alloc (.cells #[.int .i64 2, .slice none 0 0, .slice (some ⟨sk, 0, none⟩) 2 2, .int .i64 0, .int .i64 1, .slice Ad ys.length cd, .slice none 0 0, .int .i64 0] 52)).cell? ⟨B, 0, none⟩ = some u0 := hu0.1 _
                have hfB : (wj.alloc (.cells #[.int .i64 2, .slice none 0 0, .slice (some ⟨sk, 0, none⟩) 2 2, .int .i64 0, .int .i64 1, .slice Ad ys.length cd, .slice none 0 0, .int .i64 0] 52)).frozen? ⟨B, 0, none⟩ = false := hu0.2 _
                refine zQ (a' := ?_) ?_ ?_
                rotate_left
                · simp only [yZ, Act.put, List.setIfInBounds_toArray, List.set_cons_zero, List.set_cons_succ]
                  rfl
                refine yM (i := 13) (N := some 67) #[true, true, true, true, true, true, true, true, true, true, true, true, true, true, false, false] rfl rfl (by kernel_rfl) (by decide) (fun K hK => ?_)
                refine yI (w1 := ?_) (v := ?_) (by rfl) rfl ?_ ?_
                rotate_left 2
                · go_simp
                  constructor
                  · rfl
                  · rfl
                refine hK.out _ _ ((PG.cell1 (PG.alloc HGj.out _))) (fun hHeld => ?_)
                clear hK K
                refine zQ (a' := ?_) ?_ ?_
                rotate_left
                · show Act.put _ (some 67) _ = _
                  simp only [Act.put, List.setIfInBounds_toArray, List.set_cons_zero, List.set_cons_succ, zn, zo]
                  rfl
                refine zF (i := 14) (N := some 68) (v := ?_) (a' := ?_) #[true, true, true, true, true, true, true, true, true, true, true, true, true, true, true, false] rfl rfl (by kernel_rfl) (fun _ _ _ h => h) (Or.inl ⟨by rfl, ?_⟩) ?_ ?_
                rotate_left
                · intro w'
                  go_simp
                  with_reducible rfl
                rotate_left
                · simp only [Act.put, List.setIfInBounds_toArray, List.set_cons_zero, List.set_cons_succ, zn, zo]
                  rfl
                refine last_ (i := 15) (N := none) #[true, true, true, true, true, true, true, true, true, true, true, true, true, true, true, true] rfl rfl (by kernel_rfl) (by decide) (fun K hK => ?_)
                refine skip_ (w1 := ?_) (by rfl) rfl ?_ ?_
                rotate_left
                · go_simp
                  rfl
                refine hK.out _ _ ?_
                clear hK K
                refine xA (by kernel_rfl) ?_
                have hsk' : w5.heap.size ≤ sk := hsk.out
                have hBlt : B < w5.heap.size := Kd.R_lt HG5.out.r1 B (by simp [Value.ownBlock])
                have hv0lt : ∀ k, v0.ownBlock = some k → k < w5.heap.size := Kd.R_lt HG5.out.r0
                have hklt : sk < wj.heap.size := yO hbk.out
                have hV5 : V.heap.size ≤ w5.heap.size := z7 HG5.out.K
                have hVj : V.heap.size ≤ wj.heap.size := z7 HGj.out.K
                have hLIT : (Kd.int .i64).R 3 (wj.alloc (.cells #[.int .i64 2, .slice none 0 0, .slice (some ⟨sk, 0, none⟩) 2 2, .int .i64 0, .int .i64 1, .slice Ad ys.length cd, .slice none 0 0, .int .i64 0] 52)) V.heap.size (fun k => (k ≠ B ∧ some k ≠ v0.ownBlock) ∧ k ≠ wj.heap.size) (.slice (some ⟨sk, 0, none⟩) 2 2) [1, 1 + x] :=
                  xI (xs := [1, 1 + x]) (cs := [.int .i64 1, .int .i64 (1 + x)]) (zj hbk.out _) (by omega) ⟨⟨by omega, fun e => by have h1 := hv0lt _ e.symm; omega⟩, by omega⟩ (by simp [maxLen]) (((yt.none _ _).snoc (p := (1 : Int)) (c := [.int .i64 1]) rfl rfl).snoc (p := 1 + x) (c := [.int .i64 (1 + x)]) rfl rfl)
                have hDS : k82.R 82 (wj.alloc (.cells #[.int .i64 2, .slice none 0 0, .slice (some ⟨sk, 0, none⟩) 2 2, .int .i64 0, .int .i64 1, .slice Ad ys.length cd, .slice none 0 0, .int .i64 0] 52)) V.heap.size (fun k => (k ≠ B ∧ some k ≠ v0.ownBlock) ∧ k ≠ wj.heap.size) (.slice Ad ys.length cd) ys :=
                  Kd.zE (Kd.yq (Kd.zZ (Kd.xr hds.out) (fun k hk => ⟨⟨by have h1 := hk.2.1; omega, fun e => by have h1 := hk.2.1; have h2 := hv0lt _ e.symm; omega⟩, by have h1 := hk.2.2.1; omega⟩)) hV5) _
                have hROW : Kd.R k52 52 (wj.alloc (.cells #[.int .i64 2, .slice none 0 0, .slice (some ⟨sk, 0, none⟩) 2 2, .int .i64 0, .int .i64 1, .slice Ad ys.length cd, .slice none 0 0, .int .i64 0] 52)) V.heap.size (fun k => k ≠ B ∧ some k ≠ v0.ownBlock) (.slice (some ⟨wj.heap.size, 0, none⟩) 2 2) ([⟨2, [], [1, 1 + x], 0⟩, ⟨1, ys, [], 0⟩] : List S52) :=
                  xI (xs := ([⟨2, [], [1, 1 + x], 0⟩, ⟨1, ys, [], 0⟩] : List S52)) (cs := [.int .i64 2, .slice none 0 0, .slice (some ⟨sk, 0, none⟩) 2 2, .int .i64 0, .int .i64 1, .slice Ad ys.length cd, .slice none 0 0, .int .i64 0]) (heap_alloc_new _ _) hVj ⟨by omega, fun e => by have h1 := hv0lt _ e.symm; omega⟩ (by simp [maxLen])
                    (((yt.none _ _).snoc (p := (⟨2, [], [1, 1 + x], 0⟩ : S52)) (xC _ _ _ ⟨2, [], [1, 1 + x], 0⟩ (Kd.xG _ _ _ _ _) hLIT) rfl).snoc (p := (⟨1, ys, [], 0⟩ : S52)) (xC _ _ _ ⟨1, ys, [], 0⟩ hDS (Kd.xG _ _ _ _ _)) rfl)
                have HG6 := za.mk (PG.put1 (PG.alloc HGj.out (.cells #[.int .i64 2, .slice none 0 0, .slice (some ⟨sk, 0, none⟩) 2 2, .int .i64 0, .int .i64 1, .slice Ad ys.length cd, .slice none 0 0, .int .i64 0] 52)) hlN hROW)
                clear hv0lt hLIT hDS hROW hsk' hBlt hklt hV5 hVj HGj HG5 HG3 hcB hfB hu0 u0 HBc hbk hsk hds hHeld
                generalize (wj.alloc (.cells #[.int .i64 2, .slice none 0 0, .slice (some ⟨sk, 0, none⟩) 2 2, .int .i64 0, .int .i64 1, .slice Ad ys.length cd, .slice none 0 0, .int .i64 0] 52)).setCell ⟨B, 0, none⟩ (.slice (some ⟨wj.heap.size, 0, none⟩) 2 2) = w6 at HG6 ⊢
                generalize Value.slice (some ⟨B, 0, none⟩) L.length cB = v1 at HG6 ⊢
                generalize hL' : L.set 0 ([⟨2, [], [1, 1 + x], 0⟩, ⟨1, ys, [], 0⟩] : List S52) = L' at HG6 H2
                have H2 := H2.out
                replace H2 := Option.bind_eq_some_iff.mp H2
                obtain ⟨ok, PO, H2⟩ := H2
                have PO := za.mk (show yY.f k l L' = some ok from PO)
                have H2 := za.mk H2
                obtain ⟨A0, cA0, hv0⟩ := Kd.yn HG6.out.r0
                subst hv0
                obtain ⟨A1, cA1, hv1⟩ := Kd.yn HG6.out.r1
                subst hv1
                have hc0 := HG6.out.cell0
                have hc1 := HG6.out.cell1
                go_wp2_with (fail)
                obtain ⟨_, hcA0, hC0⟩ := Kd.zU HG6.out.r0
                obtain ⟨_, hcA1, hC1⟩ := Kd.zU HG6.out.r1
                refine (yY.calls k A0 cA0 l A1 cA1 L' ok _ hC0 hcA0 hC1 hcA1 PO.out).mono ?_
                rintro e w4 ⟨rfl, hb4⟩
                have HG4 := za.mk (PG.below HG6.out hb4)
                clear hC0 hC1 hcA0 hcA1 hc0 hc1 HG6 hb4 PO
                cases ok with
                | false =>
                  have H2 := H2.out
                  rw [if_neg (by decide)] at H2
                  go_wp2_with (fail)
                  go_roundg n
                  case measure => exact Nat.lt_succ_self _
                  case rel => exact ⟨i + 1, qy, by first | rfl | (simp [ei]; done), ⟨by have h1 := hi.out; omega⟩, ⟨H2⟩, ⟨HG4.out.I⟩, ⟨HG4.out.B⟩, ⟨HG4.out.K⟩⟩
                | true =>
                  have H2 := H2.out
                  rw [if_pos rfl] at H2
                  simp only [Option.some.injEq, Prod.mk.injEq] at H2
                  obtain ⟨hr1, hr2, hr3⟩ := H2
                  subst hr1 hr2 hr3
                  have hc0 := HG4.out.cell0
                  have hc1 := HG4.out.cell1
                  have hbR : w4.heap[w.heap.size]? = some (.cells #[.slice none 0 0, .slice none 0 0] 30 (0, 0)) := HG4.out.K.blk HVB.out (by have := HVG.out; omega) (by simp)
                  have hbS := yT hbR 0 (.slice A0 l.length cA0)
                  have hd0 : w4.cell? ⟨w.heap.size, 0, none⟩ = some (.slice none 0 0) := (zf hbR 0).trans rfl
                  have hf0 : w4.frozen? ⟨w.heap.size, 0, none⟩ = false := zg hbR 0
                  have hd1 : (w4.setCell ⟨w.heap.size, 0, none⟩ (.slice A0 l.length cA0)).cell? ⟨w.heap.size, 1, none⟩ = some (.slice none 0 0) := (zf hbS 1).trans rfl
                  have hf1 : (w4.setCell ⟨w.heap.size, 0, none⟩ (.slice A0 l.length cA0)).frozen? ⟨w.heap.size, 1, none⟩ = false := zg hbS 1
                  have hD := done2 HG4.out.I HG4.out.B HG4.out.K HG4.out.r0 HG4.out.r1 HVS.out HVB.out HVK.out rfl (by have := HVG.out; omega) (by have := HV00.out; omega)
                  go_wp2_with (fail)
                  exact bodyPost_ret (results_cell_row rfl _ _ w.heap.size 30 _ (0, 0) _ rfl hD.1 Tryd.underlying30 rfl (show (Tryd.prog.info? 30).map (·.size) = some 2 by kernel_rfl)) rfl ⟨_, _, rfl, hD.2⟩
              · have FF := FF.out
                rw [if_neg hte] at FF
                simp only [Option.some.injEq, Prod.mk.injEq] at FF
                obtain ⟨hf1, hf2, hf3⟩ := FF
                subst hf1 hf2 hf3
                have c3 : decide (0 < te) = false := decide_eq_false hte
                have H2 := H2.out
                replace H2 := Option.bind_eq_some_iff.mp H2
                obtain ⟨ok, PO, H2⟩ := H2
                have PO := za.mk (show yY.f k l L = some ok from PO)
                have H2 := za.mk H2
                obtain ⟨A0, cA0, hv0⟩ := Kd.yn HG3.out.r0
                subst hv0
                obtain ⟨A1, cA1, hv1⟩ := Kd.yn HG3.out.r1
                subst hv1
                have hc0 := HG3.out.cell0
                have hc1 := HG3.out.cell1
                go_wp2_with (fail)
                obtain ⟨_, hcA0, hC0⟩ := Kd.zU HG3.out.r0
                obtain ⟨_, hcA1, hC1⟩ := Kd.zU HG3.out.r1
                refine (yY.calls k A0 cA0 l A1 cA1 L ok _ hC0 hcA0 hC1 hcA1 PO.out).mono ?_
                rintro e w4 ⟨rfl, hb4⟩
                have HG4 := za.mk (PG.below HG3.out hb4)
                clear hC0 hC1 hcA0 hcA1 hc0 hc1 HG3 hb4 PO
                cases ok with
                | false =>
                  have H2 := H2.out
                  rw [if_neg (by decide)] at H2
                  go_wp2_with (fail)
                  go_roundg n
                  case measure => exact Nat.lt_succ_self _
                  case rel => exact ⟨i + 1, qe, by first | rfl | (simp [ei]; done), ⟨by have h1 := hi.out; omega⟩, ⟨H2⟩, ⟨HG4.out.I⟩, ⟨HG4.out.B⟩, ⟨HG4.out.K⟩⟩
                | true =>
                  have H2 := H2.out
                  rw [if_pos rfl] at H2
                  simp only [Option.some.injEq, Prod.mk.injEq] at H2
                  obtain ⟨hr1, hr2, hr3⟩ := H2
                  subst hr1 hr2 hr3
                  have hc0 := HG4.out.cell0
                  have hc1 := HG4.out.cell1
                  have hbR : w4.heap[w.heap.size]? = some (.cells #[.slice none 0 0, .slice none 0 0] 30 (0, 0)) := HG4.out.K.blk HVB.out (by have := HVG.out; omega) (by simp)
                  have hbS := yT hbR 0 (.slice A0 l.length cA0)
                  have hd0 : w4.cell? ⟨w.heap.size, 0, none⟩ = some (.slice none 0 0) := (zf hbR 0).trans rfl
                  have hf0 : w4.frozen? ⟨w.heap.size, 0, none⟩ = false := zg hbR 0
                  have hd1 : (w4.setCell ⟨w.heap.size, 0, none⟩ (.slice A0 l.length cA0)).cell? ⟨w.heap.size, 1, none⟩ = some (.slice none 0 0) := (zf hbS 1).trans rfl
                  have hf1 : (w4.setCell ⟨w.heap.size, 0, none⟩ (.slice A0 l.length cA0)).frozen? ⟨w.heap.size, 1, none⟩ = false := zg hbS 1
                  have hD := done2 HG4.out.I HG4.out.B HG4.out.K HG4.out.r0 HG4.out.r1 HVS.out HVB.out HVK.out rfl (by have := HVG.out; omega) (by have := HV00.out; omega)
                  go_wp2_with (fail)
                  exact bodyPost_ret (results_cell_row rfl _ _ w.heap.size 30 _ (0, 0) _ rfl hD.1 Tryd.underlying30 rfl (show (Tryd.prog.info? 30).map (·.size) = some 2 by kernel_rfl)) rfl ⟨_, _, rfl, hD.2⟩
            | succ m =>
              have c : decide (j < 2 + t2) = true := by have := hj.out; exact decide_eq_true (by omega)
              have BF := BF.out
              simp only [bodiesF] at BF
              replace BF := Option.bind_eq_some_iff.mp BF
              obtain ⟨⟨rb, pb2⟩, BY, BF⟩ := BF
              have BF := za.mk BF
              have BY := za.mk BY
              have hc0 := HG.out.cell1
              obtain ⟨wx, hwx⟩ : ∃ wx : World, wx = wr := ⟨_, rfl⟩
              go_upto_region 14 with (fail)
              rw [← hwx] at HG hc0 ⊢
              clear hwx wr
              have ej : wrap64 (j + 1) = j + 1 := by have h1 := hj.out; have h2 := c2.out; unfold wrap64; omega
              refine xi (n := 11) (S := fun w' => w'.cell? ⟨D, 1, none⟩ = some v1) (ds := [10]) #[false, false, false, false, false, false, false, false, false, false, false] (by kernel_rfl) rfl rfl ((PG.cell1 (PG.drew HG.out))) (fun hHeld => ?_)
              refine zF (i := 0) (N := some 41) (v := ?_) (a' := ?_) #[true, false, false, false, false, false, false, false, false, false, false] rfl rfl (by kernel_rfl) (fun _ _ _ h => h) (Or.inl ⟨by rfl, ?_⟩) ?_ ?_
              rotate_left
              · intro w'
                go_simp
                with_reducible rfl
              rotate_left
              · simp only [Act.put, List.setIfInBounds_toArray, List.set_cons_zero, List.set_cons_succ, zn, zo]
                rfl
              refine zF (i := 2) (N := some 43) (v := ?_) (a' := ?_) #[true, false, true, false, false, false, false, false, false, false, false] rfl rfl (by kernel_rfl) (fun _ _ _ h => h) (Or.inl ⟨by rfl, ?_⟩) ?_ ?_
              rotate_left
              · intro w'
                go_simp
                with_reducible rfl
              rotate_left
              · simp only [Act.put, List.setIfInBounds_toArray, List.set_cons_zero, List.set_cons_succ, zn, zo]
                rfl
              refine zF (i := 3) (N := some 44) (v := ?_) (a' := ?_) #[true, false, true, true, false, false, false, false, false, false, false] rfl rfl (by kernel_rfl) (fun _ _ _ h => h) (Or.inl ⟨by rfl, ?_⟩) ?_ ?_
              rotate_left
              · intro w'
                go_simp
                with_reducible rfl
              rotate_left
              · simp only [Act.put, List.setIfInBounds_toArray, List.set_cons_zero, List.set_cons_succ, zn, zo]
                rfl
              refine zF (i := 4) (N := some 45) (v := ?_) (a' := ?_) #[true, false, true, true, true, false, false, false, false, false, false] rfl rfl (by kernel_rfl) (fun _ _ _ h => h) (Or.inl ⟨by rfl, ?_⟩) ?_ ?_
              rotate_left
              · intro w'
                go_simp
                with_reducible rfl
              rotate_left
              · simp only [Act.put, List.setIfInBounds_toArray, List.set_cons_zero, List.set_cons_succ, zn, zo]
                rfl
              refine zF (i := 5) (N := some 46) (v := ?_) (a' := ?_) #[true, false, true, true, true, true, false, false, false, false, false] rfl rfl (by kernel_rfl) (fun _ _ _ h => h) (Or.inl ⟨by rfl, ?_⟩) ?_ ?_
              rotate_left
              · intro w'
                go_simp
                with_reducible rfl
              rotate_left
              · simp only [Act.put, List.setIfInBounds_toArray, List.set_cons_zero, List.set_cons_succ, zn, zo]
                rfl
              refine yK (i := 1) (N := some 42) (v := ?_) (a' := ?_) #[true, true, true, true, true, true, false, false, false, false, false] rfl rfl (by kernel_rfl) (fun _ _ _ h => h) (Or.inl ⟨by rfl, ?_⟩) hHeld ?_ ?_
              rotate_left
              · intro w' s0
                go_simp
                with_reducible rfl
              rotate_left
              · simp only [Act.put, List.setIfInBounds_toArray, List.set_cons_zero, List.set_cons_succ, zn, zo]
                rfl
              refine yM (i := 6) (N := some 47) #[true, true, true, true, true, true, true, false, false, false, false] rfl rfl (by kernel_rfl) (by decide) (fun K hK => ?_)
              refine y7 Tryd.func75 (by kernel_rfl) rfl #[.pointer (some ⟨g, 0, none⟩), .int .i64 j, .int .i64 (2 + t2), .int .i64 (1 + t1)] (by rfl) rfl rfl (by simp only [List.map_toArray, List.map_cons, List.map_nil]; rfl) ?_
              with_reducible refine (zv.calls k g s0_0 pb j (2 + t2) (1 + t1) rb pb2 w0 _ (by repeat (first | exact HG.out.I | apply ze.alloc | apply ze.drew)) (by repeat (first | exact HG.out.B | apply zc | apply zd)) BY.out).mono ?_
              rintro e wc ⟨vb, rfl, hob, hi2, hb2, hk2⟩
              refine ⟨_, rfl, ?_⟩
              have HGd := za.mk (show PG w0 V wx.drew g D s0_0 pb v0 v1 l L from PG.drew HG.out)
              have hoc := Kd.xr (Kd.S_R hob)
              obtain ⟨Ab, cb, rfl⟩ := Kd.yn hoc
              have HGj := za.mk (PG.keep HGd.out hi2 hb2 hk2)
              have hok1 : ∀ k, wx.heap.size ≤ k → some k ≠ v0.ownBlock ∧ some k ≠ v1.ownBlock := fun k hk => ⟨fun e => Nat.lt_irrefl _ (Nat.lt_of_lt_of_le (Kd.R_lt HG.out.r0 k e.symm) hk), fun e => Nat.lt_irrefl _ (Nat.lt_of_lt_of_le ((Kd.xr HG.out.r1).1 k e.symm).2.2.1 hk)⟩
              have hoR : Kd.R k52 52 wc V.heap.size (fun k => wx.heap.size ≤ k) (.slice Ab rb.length cb) rb := Kd.yq (Kd.zZ hoc (fun k hk => hk.2.1)) (z7 HG.out.K)
              clear hob hi2 hb2 hk2 hoc
              refine hK.out _ _ ((PG.cell1 HGj.out)) (fun hHeld => ?_)
              clear hK K
              refine zQ (a' := ?_) ?_ ?_
              rotate_left
              · show Act.put _ (some 47) _ = _
                simp only [Act.put, List.setIfInBounds_toArray, List.set_cons_zero, List.set_cons_succ, zn, zo]
                rfl
              refine yM (i := 7) (N := some 48) #[true, true, true, true, true, true, true, true, false, false, false] rfl rfl (by kernel_rfl) (by decide) (fun K hK => ?_)
              refine yI (w1 := ?_) (v := ?_) (by rfl) rfl ?_ ?_
              rotate_left 2
              · go_simp
                constructor
                · rfl
                · rfl
              refine hK.out _ _ ((PG.cell1 (PG.alloc HGj.out _))) (fun hHeld => ?_)
              clear hK K
              refine zQ (a' := ?_) ?_ ?_
              rotate_left
              · show Act.put _ (some 48) _ = _
                simp only [Act.put, List.setIfInBounds_toArray, List.set_cons_zero, List.set_cons_succ, zn, zo]
                rfl
              refine yM (i := 8) (N := some 49) #[true, true, true, true, true, true, true, true, true, false, false] rfl rfl (by kernel_rfl) (by decide) (fun K hK => ?_)
              refine Kd.yW (Kd.slice 52 k52) V.heap.size (by rfl) (.tmp 42) (.tmp 48) 28 48 (.slice none 0 0) 24 (by rfl) Tryd.underlying28 (by kernel_rfl) (by rfl) (by decide) (by decide) v1 L rb [.slice Ab rb.length cb] (fun k => some k ≠ v0.ownBlock) (fun k => wx.heap.size ≤ k) (by rfl) (by first | rfl | (go_simp; done) | (simp; done)) ⟨_, rfl, hoR⟩ hok1 (fun k hk e => Nat.lt_irrefl _ (Nat.lt_of_lt_of_le (Kd.R_lt HGj.out.r0 k e.symm) hk)) (by exact HGj.out.r1) (Below.refl _ _) (by exact z7 HGj.out.K) (by have h1 := hj.out; have h2 := c2.out; omega) ?_
              intro va wa hra hba hga hata
              obtain ⟨Aa, ca, rfl⟩ := Kd.yn hra
              have HA := za.mk (PG.push1 HGj.out hra hba hga)
              have hbA := PG.grow1 HGj.out hga
              have hcA : wa.cell? ⟨D, 1, none⟩ = some v1 := (zf hbA 1).trans rfl
              have hfA : wa.frozen? ⟨D, 1, none⟩ = false := zg hbA 1
              refine hK.out _ _ (hcA) (fun hHeld => ?_)
              clear hK K
              refine zQ (a' := ?_) ?_ ?_
              rotate_left
              · show Act.put _ (some 49) _ = _
                simp only [Act.put, List.setIfInBounds_toArray, List.set_cons_zero, List.set_cons_succ, zn, zo]
                rfl
              refine zF (i := 9) (N := some 50) (v := ?_) (a' := ?_) #[true, true, true, true, true, true, true, true, true, true, false] rfl rfl (by kernel_rfl) (fun _ _ _ h => h) (Or.inl ⟨by rfl, ?_⟩) ?_ ?_
              rotate_left
              · intro w'
                go_simp
                with_reducible rfl
              rotate_left
              · simp only [Act.put, List.setIfInBounds_toArray, List.set_cons_zero, List.set_cons_succ, zn, zo]
                rfl
              refine last_ (i := 10) (N := none) #[true, true, true, true, true, true, true, true, true, true, true] rfl rfl (by kernel_rfl) (by decide) (fun K hK => ?_)
              refine skip_ (w1 := ?_) (by rfl) rfl ?_ ?_
              rotate_left
              · go_simp
                rfl
              refine hK.out _ _ ?_
              clear hK K
              refine xA (by kernel_rfl) ?_
              clear hcA hfA hbA hc0
              go_wp2
              go_roundg m
              case measure => exact Nat.lt_succ_self _
              case rel => exact ⟨j + 1, pb2, L ++ [rb], .slice Aa (L.length + 1) ca, by first | rfl | (simp [ej]; done), ⟨by have h1 := hj.out; simp; omega⟩, BF, by have h := HA.out; simp only [List.length_append, List.length_cons, List.length_nil, Nat.zero_add] at h; exact ⟨h⟩⟩
        | succ m =>
          have c : decide (j < 1 + t1) = true := by have := hj.out; exact decide_eq_true (by omega)
          have CF := CF.out
          simp only [cellsF] at CF
          replace CF := Option.bind_eq_some_iff.mp CF
          obtain ⟨⟨d, pd⟩, PD, CF⟩ := CF
          have cd : 0 ≤ d ∧ d < 5 := Classical.byContradiction fun c1 => by rw [if_neg c1] at CF; exact absurd CF (by simp)
          rw [if_pos cd] at CF
          have CF := za.mk CF
          have PD := za.mk PD
          have hc0 := HG.out.cell0
          obtain ⟨x, hx⟩ : ∃ x, x = nums5.getD d.toNat 0 := ⟨_, rfl⟩
          rw [← hx] at CF
          obtain ⟨wx, hwx⟩ : ∃ wx : World, wx = wr := ⟨_, rfl⟩
          go_upto_region 9 with (fail)
          rw [← hwx] at HG hc0 ⊢
          clear hwx wr
          have ej : wrap64 (j + 1) = j + 1 := by have h1 := hj.out; have h2 := c1.out; unfold wrap64; omega
          have hd : d = 0 ∨ d = 1 ∨ d = 2 ∨ d = 3 ∨ d = 4 := by omega
          clear cd
          rcases hd with rfl | rfl | rfl | rfl | rfl
          · have hx2 : x = 0 := hx
            clear hx
            subst hx2
            refine xi (n := 11) (S := fun w' => w'.cell? ⟨D, 0, none⟩ = some v0) (ds := [10]) #[false, false, false, false, false, false, false, false, false, false, false] (by kernel_rfl) rfl rfl ((PG.cell0 (PG.drew HG.out))) (fun hHeld => ?_)
            refine zF (i := 0) (N := some 23) (v := ?_) (a' := ?_) #[true, false, false, false, false, false, false, false, false, false, false] rfl rfl (by kernel_rfl) (fun _ _ _ h => h) (Or.inl ⟨by rfl, ?_⟩) ?_ ?_
            rotate_left
            · intro w'
              go_simp
              with_reducible rfl
            rotate_left
            · simp only [Act.put, List.setIfInBounds_toArray, List.set_cons_zero, List.set_cons_succ, zn, zo]
              rfl
            refine zF (i := 3) (N := some 26) (v := ?_) (a' := ?_) #[true, false, false, true, false, false, false, false, false, false, false] rfl rfl (by kernel_rfl) (fun _ _ _ h => h) (Or.inl ⟨by rfl, ?_⟩) ?_ ?_
            rotate_left
            · intro w'
              go_simp
              with_reducible rfl
            rotate_left
            · simp only [Act.put, List.setIfInBounds_toArray, List.set_cons_zero, List.set_cons_succ, zn, zo]
              rfl
            refine yK (i := 1) (N := some 24) (v := ?_) (a' := ?_) #[true, true, false, true, false, false, false, false, false, false, false] rfl rfl (by kernel_rfl) (fun _ _ _ h => h) (Or.inl ⟨by rfl, ?_⟩) hHeld ?_ ?_
            rotate_left
            · intro w' s0
              go_simp
              with_reducible rfl
            rotate_left
            · simp only [Act.put, List.setIfInBounds_toArray, List.set_cons_zero, List.set_cons_succ, zn, zo]
              rfl
            refine join_ (σ := Nat) 6 #[true, true, true, true, true, false, false, false, false, false, false] (fun s => [(25, .slice (some ⟨s, 0, none⟩) 5 5), (27, .int .i64 0)]) (fun s w' => w'.cell? ⟨D, 0, none⟩ = some v0 ∧ za (PG w0 V w' g D s0_0 pd v0 (.slice none 0 0) l []) ∧ w'.cell? ⟨s, 0, none⟩ = some (.int .i64 0)) ?_ ?_
            rotate_left
            · intro hCont
              refine two_ (i := 2) (j := 4) (Ni := some 25) (Nj := some 27) #[true, true, true, true, false, false, false, false, false, false, false] #[true, true, false, true, true, false, false, false, false, false, false] rfl rfl rfl rfl (by kernel_rfl) (by decide) (by decide) (fun K hK => ?_) (fun K hK => ?_)
              · skip
                refine yI (w1 := ?_) (v := ?_) (by rfl) rfl ?_ ?_
                rotate_left 2
                · go_simp
                  constructor
                  · rfl
                  · rfl
                refine hK.out _ _ ((PG.cell0 (show PG w0 V _ g D s0_0 pc v0 (.slice none 0 0) l [] from by repeat (first | exact HG.out | apply PG.alloc | apply PG.drew)))) (fun hHeld => ?_)
                clear hK K
                refine zQ (a' := ?_) ?_ ?_
                rotate_left
                · show Act.put _ (some 25) _ = _
                  simp only [Act.put, List.setIfInBounds_toArray, List.set_cons_zero, List.set_cons_succ, zn, zo]
                  rfl
                refine yM (i := 4) (N := some 27) #[true, true, true, true, true, false, false, false, false, false, false] rfl rfl (by kernel_rfl) (by decide) (fun K hK => ?_)
                refine y7 Tryd.func56 (by kernel_rfl) rfl #[.pointer (some ⟨g, 0, none⟩), .int .i64 5] (by rfl) rfl rfl (by simp only [List.map_toArray, List.map_cons, List.map_nil]; rfl) ?_
                with_reducible refine (zi.calls k g s0_0 pc 5 0 pd w0 _ (by repeat (first | exact HG.out.I | apply ze.alloc | apply ze.drew)) (by repeat (first | exact HG.out.B | apply zc | apply zd)) PD.out).mono ?_
                rintro e wc ⟨rfl, hi2, hb2, hk2⟩
                refine ⟨_, rfl, ?_⟩
                have HG2 := za.mk (PG.keep (by repeat (first | exact HG.out | apply PG.alloc | apply PG.drew)) hi2 hb2 hk2)
                refine hK.out _ _ ((PG.cell0 (show PG w0 V _ g D s0_0 pd v0 (.slice none 0 0) l [] from by repeat (first | exact HG2.out | apply PG.alloc | apply PG.drew)))) (fun hHeld => ?_)
                clear hK K
                refine zQ (a' := ?_) ?_ ?_
                rotate_left
                · show Act.put _ (some 27) _ = _
                  simp only [Act.put, List.setIfInBounds_toArray, List.set_cons_zero, List.set_cons_succ, zn, zo]
                  rfl
                exact zQ (by simp only [yZ, Act.put, List.setIfInBounds_toArray, List.set_cons_zero, List.set_cons_succ]) (hCont _ _ ⟨(PG.cell0 (show PG w0 V _ g D s0_0 pd v0 (.slice none 0 0) l [] from by repeat (first | exact HG2.out | apply PG.alloc | apply PG.drew))), ⟨(show PG w0 V _ g D s0_0 pd v0 (.slice none 0 0) l [] from by repeat (first | exact HG2.out | apply PG.alloc | apply PG.drew))⟩, (zf (hk2.blk (heap_alloc_new _ _) (Nat.ne_of_gt (ze.lt HG.out.I)) (by simp)) 0).trans rfl⟩)
              · skip
                refine y7 Tryd.func56 (by kernel_rfl) rfl #[.pointer (some ⟨g, 0, none⟩), .int .i64 5] (by rfl) rfl rfl (by simp only [List.map_toArray, List.map_cons, List.map_nil]; rfl) ?_
                with_reducible refine (zi.calls k g s0_0 pc 5 0 pd w0 _ (by repeat (first | exact HG.out.I | apply ze.alloc | apply ze.drew)) (by repeat (first | exact HG.out.B | apply zc | apply zd)) PD.out).mono ?_
                rintro e wc ⟨rfl, hi2, hb2, hk2⟩
                refine ⟨_, rfl, ?_⟩
                have HG2 := za.mk (PG.keep (by repeat (first | exact HG.out | apply PG.alloc | apply PG.drew)) hi2 hb2 hk2)
                refine hK.out _ _ ((PG.cell0 (show PG w0 V _ g D s0_0 pd v0 (.slice none 0 0) l [] from by repeat (first | exact HG2.out | apply PG.alloc | apply PG.drew)))) (fun hHeld => ?_)
                clear hK K
                refine zQ (a' := ?_) ?_ ?_
                rotate_left
                · show Act.put _ (some 27) _ = _
                  simp only [Act.put, List.setIfInBounds_toArray, List.set_cons_zero, List.set_cons_succ, zn, zo]
                  rfl
                refine yM (i := 2) (N := some 25) #[true, true, true, true, true, false, false, false, false, false, false] rfl rfl (by kernel_rfl) (by decide) (fun K hK => ?_)
                refine yI (w1 := ?_) (v := ?_) (by rfl) rfl ?_ ?_
                rotate_left 2
                · go_simp
                  constructor
                  · rfl
                  · rfl
                refine hK.out _ _ ((PG.cell0 (show PG w0 V _ g D s0_0 pd v0 (.slice none 0 0) l [] from by repeat (first | exact HG2.out | apply PG.alloc | apply PG.drew)))) (fun hHeld => ?_)
                clear hK K
                refine zQ (a' := ?_) ?_ ?_
                rotate_left
                · show Act.put _ (some 25) _ = _
                  simp only [Act.put, List.setIfInBounds_toArray, List.set_cons_zero, List.set_cons_succ, zn, zo]
                  rfl
                exact zQ (by simp only [yZ, Act.put, List.setIfInBounds_toArray, List.set_cons_zero, List.set_cons_succ]) (hCont _ _ ⟨(PG.cell0 (show PG w0 V _ g D s0_0 pd v0 (.slice none 0 0) l [] from by repeat (first | exact HG2.out | apply PG.alloc | apply PG.drew))), ⟨(show PG w0 V _ g D s0_0 pd v0 (.slice none 0 0) l [] from by repeat (first | exact HG2.out | apply PG.alloc | apply PG.drew))⟩, (zf (heap_alloc_new _ _) 0).trans rfl⟩)
            rintro sL wj ⟨hHeld, HGj, hcj⟩
            refine zQ (a' := ?_) ?_ ?_
            rotate_left
            · simp only [yZ, Act.put, List.setIfInBounds_toArray, List.set_cons_zero, List.set_cons_succ]
              rfl
            refine zF (i := 5) (N := some 28) (v := ?_) (a' := ?_) #[true, true, true, true, true, true, false, false, false, false, false] rfl rfl (by kernel_rfl) (fun _ _ _ h => h) (Or.inl ⟨by rfl, ?_⟩) ?_ ?_
            rotate_left
            · intro w'
              go_simp
              with_reducible rfl
            rotate_left
            · simp only [Act.put, List.setIfInBounds_toArray, List.set_cons_zero, List.set_cons_succ, zn, zo]
              rfl
            refine yM (i := 6) (N := some 29) #[true, true, true, true, true, true, true, false, false, false, false] rfl rfl (by kernel_rfl) (by decide) (fun K hK => ?_)
            refine yI (w1 := ?_) (v := ?_) (by rfl) rfl ?_ ?_
            rotate_left 2
            · go_simp
              constructor
              · rfl
              · rfl
            refine hK.out _ _ (hHeld) (fun hHeld => ?_)
            clear hK K
            refine zQ (a' := ?_) ?_ ?_
            rotate_left
            · show Act.put _ (some 29) _ = _
              simp only [Act.put, List.setIfInBounds_toArray, List.set_cons_zero, List.set_cons_succ, zn, zo]
              rfl
            refine yM (i := 7) (N := some 30) #[true, true, true, true, true, true, true, true, false, false, false] rfl rfl (by kernel_rfl) (by decide) (fun K hK => ?_)
            refine yI (w1 := ?_) (v := ?_) (by rfl) rfl ?_ ?_
            rotate_left 2
            · go_simp
              constructor
              · rfl
              · rfl
            refine hK.out _ _ ((PG.cell0 (PG.alloc HGj.out _))) (fun hHeld => ?_)
            clear hK K
            refine zQ (a' := ?_) ?_ ?_
            rotate_left
            · show Act.put _ (some 30) _ = _
              simp only [Act.put, List.setIfInBounds_toArray, List.set_cons_zero, List.set_cons_succ, zn, zo]
              rfl
            refine yM (i := 8) (N := some 31) #[true, true, true, true, true, true, true, true, true, false, false] rfl rfl (by kernel_rfl) (by decide) (fun K hK => ?_)
            refine Kd.yW (Kd.int .i64) V.heap.size (by rfl) (.tmp 24) (.tmp 30) 22 3 (.int .i64 0) 8 (by rfl) Tryd.underlying22 (by kernel_rfl) (by rfl) (by decide) (by decide) v0 l 0 [.int .i64 0] (fun _ => True) (fun _ => False) (by rfl) (by first | rfl | (go_simp; done) | (simp; done)) (by rfl) (fun _ hk => hk.elim) (fun _ _ => trivial) (by exact HGj.out.r0) (Below.refl _ _) (by exact z7 HGj.out.K) (by have h1 := hj.out; have h2 := c1.out; omega) ?_
            intro va wa hra hba hga hata
            obtain ⟨Aa, ca, rfl⟩ := Kd.yn hra
            have HA := za.mk (PG.push0 HGj.out rfl rfl hra hba hga)
            have hbA := PG.grow0 HGj.out hga
            have hcA : wa.cell? ⟨D, 0, none⟩ = some v0 := (zf hbA 0).trans rfl
            have hfA : wa.frozen? ⟨D, 0, none⟩ = false := zg hbA 0
            refine hK.out _ _ (hcA) (fun hHeld => ?_)
            clear hK K
            refine zQ (a' := ?_) ?_ ?_
            rotate_left
            · show Act.put _ (some 31) _ = _
              simp only [Act.put, List.setIfInBounds_toArray, List.set_cons_zero, List.set_cons_succ, zn, zo]
              rfl
            refine zF (i := 9) (N := some 32) (v := ?_) (a' := ?_) #[true, true, true, true, true, true, true, true, true, true, false] rfl rfl (by kernel_rfl) (fun _ _ _ h => h) (Or.inl ⟨by rfl, ?_⟩) ?_ ?_
            rotate_left
            · intro w'
              go_simp
              with_reducible rfl
            rotate_left
            · simp only [Act.put, List.setIfInBounds_toArray, List.set_cons_zero, List.set_cons_succ, zn, zo]
              rfl
            refine last_ (i := 10) (N := none) #[true, true, true, true, true, true, true, true, true, true, true] rfl rfl (by kernel_rfl) (by decide) (fun K hK => ?_)
            refine skip_ (w1 := ?_) (by rfl) rfl ?_ ?_
            rotate_left
            · go_simp
              rfl
            refine hK.out _ _ ?_
            clear hK K
            refine xA (by kernel_rfl) ?_
            clear hcA hfA hbA hcj hc0
            go_wp2
            go_roundg m
            case measure => exact Nat.lt_succ_self _
            case rel => exact ⟨j + 1, pd, l ++ [0], .slice Aa (l.length + 1) ca, by first | rfl | (simp [ej]; done), ⟨by have h1 := hj.out; simp; omega⟩, CF, by have h := HA.out; simp only [List.length_append, List.length_cons, List.length_nil, Nat.zero_add] at h; exact ⟨h⟩⟩
          · have hx2 : x = 0 := hx
            clear hx
            subst hx2
            refine xi (n := 11) (S := fun w' => w'.cell? ⟨D, 0, none⟩ = some v0) (ds := [10]) #[false, false, false, false, false, false, false, false, false, false, false] (by kernel_rfl) rfl rfl ((PG.cell0 (PG.drew HG.out))) (fun hHeld => ?_)
            refine zF (i := 0) (N := some 23) (v := ?_) (a' := ?_) #[true, false, false, false, false, false, false, false, false, false, false] rfl rfl (by kernel_rfl) (fun _ _ _ h => h) (Or.inl ⟨by rfl, ?_⟩) ?_ ?_
            rotate_left
            · intro w'
              go_simp
              with_reducible rfl
            rotate_left
            · simp only [Act.put, List.setIfInBounds_toArray, List.set_cons_zero, List.set_cons_succ, zn, zo]
              rfl
            refine zF (i := 3) (N := some 26) (v := ?_) (a' := ?_) #[true, false, false, true, false, false, false, false, false, false, false] rfl rfl (by kernel_rfl) (fun _ _ _ h => h) (Or.inl ⟨by rfl, ?_⟩) ?_ ?_
            rotate_left
            · intro w'
              go_simp
              with_reducible rfl
            rotate_left
            · simp only [Act.put, List.setIfInBounds_toArray, List.set_cons_zero, List.set_cons_succ, zn, zo]
              rfl
            refine yK (i := 1) (N := some 24) (v := ?_) (a' := ?_) #[true, true, false, true, false, false, false, false, false, false, false] rfl rfl (by kernel_rfl) (fun _ _ _ h => h) (Or.inl ⟨by rfl, ?_⟩) hHeld ?_ ?_
            rotate_left
            · intro w' s0
              go_simp
              with_reducible rfl
            rotate_left
            · simp only [Act.put, List.setIfInBounds_toArray, List.set_cons_zero, List.set_cons_succ, zn, zo]
              rfl
            refine join_ (σ := Nat) 6 #[true, true, true, true, true, false, false, false, false, false, false] (fun s => [(25, .slice (some ⟨s, 0, none⟩) 5 5), (27, .int .i64 1)]) (fun s w' => w'.cell? ⟨D, 0, none⟩ = some v0 ∧ za (PG w0 V w' g D s0_0 pd v0 (.slice none 0 0) l []) ∧ w'.cell? ⟨s, 1, none⟩ = some (.int .i64 0)) ?_ ?_
            rotate_left
            · intro hCont
              refine two_ (i := 2) (j := 4) (Ni := some 25) (Nj := some 27) #[true, true, true, true, false, false, false, false, false, false, false] #[true, true, false, true, true, false, false, false, false, false, false] rfl rfl rfl rfl (by kernel_rfl) (by decide) (by decide) (fun K hK => ?_) (fun K hK => ?_)
              · skip
                refine yI (w1 := ?_) (v := ?_) (by rfl) rfl ?_ ?_
                rotate_left 2
                · go_simp
                  constructor
                  · rfl
                  · rfl
                refine hK.out _ _ ((PG.cell0 (show PG w0 V _ g D s0_0 pc v0 (.slice none 0 0) l [] from by repeat (first | exact HG.out | apply PG.alloc | apply PG.drew)))) (fun hHeld => ?_)
                clear hK K
                refine zQ (a' := ?_) ?_ ?_
                rotate_left
                · show Act.put _ (some 25) _ = _
                  simp only [Act.put, List.setIfInBounds_toArray, List.set_cons_zero, List.set_cons_succ, zn, zo]
                  rfl
                refine yM (i := 4) (N := some 27) #[true, true, true, true, true, false, false, false, false, false, false] rfl rfl (by kernel_rfl) (by decide) (fun K hK => ?_)
                refine y7 Tryd.func56 (by kernel_rfl) rfl #[.pointer (some ⟨g, 0, none⟩), .int .i64 5] (by rfl) rfl rfl (by simp only [List.map_toArray, List.map_cons, List.map_nil]; rfl) ?_
                with_reducible refine (zi.calls k g s0_0 pc 5 1 pd w0 _ (by repeat (first | exact HG.out.I | apply ze.alloc | apply ze.drew)) (by repeat (first | exact HG.out.B | apply zc | apply zd)) PD.out).mono ?_
                rintro e wc ⟨rfl, hi2, hb2, hk2⟩
                refine ⟨_, rfl, ?_⟩
                have HG2 := za.mk (PG.keep (by repeat (first | exact HG.out | apply PG.alloc | apply PG.drew)) hi2 hb2 hk2)
                refine hK.out _ _ ((PG.cell0 (show PG w0 V _ g D s0_0 pd v0 (.slice none 0 0) l [] from by repeat (first | exact HG2.out | apply PG.alloc | apply PG.drew)))) (fun hHeld => ?_)
                clear hK K
                refine zQ (a' := ?_) ?_ ?_
                rotate_left
                · show Act.put _ (some 27) _ = _
                  simp only [Act.put, List.setIfInBounds_toArray, List.set_cons_zero, List.set_cons_succ, zn, zo]
                  rfl
                exact zQ (by simp only [yZ, Act.put, List.setIfInBounds_toArray, List.set_cons_zero, List.set_cons_succ]) (hCont _ _ ⟨(PG.cell0 (show PG w0 V _ g D s0_0 pd v0 (.slice none 0 0) l [] from by repeat (first | exact HG2.out | apply PG.alloc | apply PG.drew))), ⟨(show PG w0 V _ g D s0_0 pd v0 (.slice none 0 0) l [] from by repeat (first | exact HG2.out | apply PG.alloc | apply PG.drew))⟩, (zf (hk2.blk (heap_alloc_new _ _) (Nat.ne_of_gt (ze.lt HG.out.I)) (by simp)) 1).trans rfl⟩)
              · skip
                refine y7 Tryd.func56 (by kernel_rfl) rfl #[.pointer (some ⟨g, 0, none⟩), .int .i64 5] (by rfl) rfl rfl (by simp only [List.map_toArray, List.map_cons, List.map_nil]; rfl) ?_
                with_reducible refine (zi.calls k g s0_0 pc 5 1 pd w0 _ (by repeat (first | exact HG.out.I | apply ze.alloc | apply ze.drew)) (by repeat (first | exact HG.out.B | apply zc | apply zd)) PD.out).mono ?_
                rintro e wc ⟨rfl, hi2, hb2, hk2⟩
                refine ⟨_, rfl, ?_⟩
                have HG2 := za.mk (PG.keep (by repeat (first | exact HG.out | apply PG.alloc | apply PG.drew)) hi2 hb2 hk2)
                refine hK.out _ _ ((PG.cell0 (show PG w0 V _ g D s0_0 pd v0 (.slice none 0 0) l [] from by repeat (first | exact HG2.out | apply PG.alloc | apply PG.drew)))) (fun hHeld => ?_)
                clear hK K
                refine zQ (a' := ?_) ?_ ?_
                rotate_left
                · show Act.put _ (some 27) _ = _
                  simp only [Act.put, List.setIfInBounds_toArray, List.set_cons_zero, List.set_cons_succ, zn, zo]
                  rfl
                refine yM (i := 2) (N := some 25) #[true, true, true, true, true, false, false, false, false, false, false] rfl rfl (by kernel_rfl) (by decide) (fun K hK => ?_)
                refine yI (w1 := ?_) (v := ?_) (by rfl) rfl ?_ ?_
                rotate_left 2
                · go_simp
                  constructor
                  · rfl
                  · rfl
                refine hK.out _ _ ((PG.cell0 (show PG w0 V _ g D s0_0 pd v0 (.slice none 0 0) l [] from by repeat (first | exact HG2.out | apply PG.alloc | apply PG.drew)))) (fun hHeld => ?_)
                clear hK K
                refine zQ (a' := ?_) ?_ ?_
                rotate_left
                · show Act.put _ (some 25) _ = _
                  simp only [Act.put, List.setIfInBounds_toArray, List.set_cons_zero, List.set_cons_succ, zn, zo]
                  rfl
                exact zQ (by simp only [yZ, Act.put, List.setIfInBounds_toArray, List.set_cons_zero, List.set_cons_succ]) (hCont _ _ ⟨(PG.cell0 (show PG w0 V _ g D s0_0 pd v0 (.slice none 0 0) l [] from by repeat (first | exact HG2.out | apply PG.alloc | apply PG.drew))), ⟨(show PG w0 V _ g D s0_0 pd v0 (.slice none 0 0) l [] from by repeat (first | exact HG2.out | apply PG.alloc | apply PG.drew))⟩, (zf (heap_alloc_new _ _) 1).trans rfl⟩)
            rintro sL wj ⟨hHeld, HGj, hcj⟩
            refine zQ (a' := ?_) ?_ ?_
            rotate_left
            · simp only [yZ, Act.put, List.setIfInBounds_toArray, List.set_cons_zero, List.set_cons_succ]
              rfl
            refine zF (i := 5) (N := some 28) (v := ?_) (a' := ?_) #[true, true, true, true, true, true, false, false, false, false, false] rfl rfl (by kernel_rfl) (fun _ _ _ h => h) (Or.inl ⟨by rfl, ?_⟩) ?_ ?_
            rotate_left
            · intro w'
              go_simp
              with_reducible rfl
            rotate_left
            · simp only [Act.put, List.setIfInBounds_toArray, List.set_cons_zero, List.set_cons_succ, zn, zo]
              rfl
            refine yM (i := 6) (N := some 29) #[true, true, true, true, true, true, true, false, false, false, false] rfl rfl (by kernel_rfl) (by decide) (fun K hK => ?_)
            refine yI (w1 := ?_) (v := ?_) (by rfl) rfl ?_ ?_
            rotate_left 2
            · go_simp
              constructor
              · rfl
              · rfl
            refine hK.out _ _ (hHeld) (fun hHeld => ?_)
            clear hK K
            refine zQ (a' := ?_) ?_ ?_
            rotate_left
            · show Act.put _ (some 29) _ = _
              simp only [Act.put, List.setIfInBounds_toArray, List.set_cons_zero, List.set_cons_succ, zn, zo]
              rfl
            refine yM (i := 7) (N := some 30) #[true, true, true, true, true, true, true, true, false, false, false] rfl rfl (by kernel_rfl) (by decide) (fun K hK => ?_)
            refine yI (w1 := ?_) (v := ?_) (by rfl) rfl ?_ ?_
            rotate_left 2
            · go_simp
              constructor
              · rfl
              · rfl
            refine hK.out _ _ ((PG.cell0 (PG.alloc HGj.out _))) (fun hHeld => ?_)
            clear hK K
            refine zQ (a' := ?_) ?_ ?_
            rotate_left
            · show Act.put _ (some 30) _ = _
              simp only [Act.put, List.setIfInBounds_toArray, List.set_cons_zero, List.set_cons_succ, zn, zo]
              rfl
            refine yM (i := 8) (N := some 31) #[true, true, true, true, true, true, true, true, true, false, false] rfl rfl (by kernel_rfl) (by decide) (fun K hK => ?_)
            refine Kd.yW (Kd.int .i64) V.heap.size (by rfl) (.tmp 24) (.tmp 30) 22 3 (.int .i64 0) 8 (by rfl) Tryd.underlying22 (by kernel_rfl) (by rfl) (by decide) (by decide) v0 l 0 [.int .i64 0] (fun _ => True) (fun _ => False) (by rfl) (by first | rfl | (go_simp; done) | (simp; done)) (by rfl) (fun _ hk => hk.elim) (fun _ _ => trivial) (by exact HGj.out.r0) (Below.refl _ _) (by exact z7 HGj.out.K) (by have h1 := hj.out; have h2 := c1.out; omega) ?_
            intro va wa hra hba hga hata
            obtain ⟨Aa, ca, rfl⟩ := Kd.yn hra
            have HA := za.mk (PG.push0 HGj.out rfl rfl hra hba hga)
            have hbA := PG.grow0 HGj.out hga
            have hcA : wa.cell? ⟨D, 0, none⟩ = some v0 := (zf hbA 0).trans rfl
            have hfA : wa.frozen? ⟨D, 0, none⟩ = false := zg hbA 0
            refine hK.out _ _ (hcA) (fun hHeld => ?_)
            clear hK K
            refine zQ (a' := ?_) ?_ ?_
            rotate_left
            · show Act.put _ (some 31) _ = _
              simp only [Act.put, List.setIfInBounds_toArray, List.set_cons_zero, List.set_cons_succ, zn, zo]
              rfl
            refine zF (i := 9) (N := some 32) (v := ?_) (a' := ?_) #[true, true, true, true, true, true, true, true, true, true, false] rfl rfl (by kernel_rfl) (fun _ _ _ h => h) (Or.inl ⟨by rfl, ?_⟩) ?_ ?_
            rotate_left
            · intro w'
              go_simp
              with_reducible rfl
            rotate_left
            · simp only [Act.put, List.setIfInBounds_toArray, List.set_cons_zero, List.set_cons_succ, zn, zo]
              rfl
            refine last_ (i := 10) (N := none) #[true, true, true, true, true, true, true, true, true, true, true] rfl rfl (by kernel_rfl) (by decide) (fun K hK => ?_)
            refine skip_ (w1 := ?_) (by rfl) rfl ?_ ?_
            rotate_left
            · go_simp
              rfl
            refine hK.out _ _ ?_
            clear hK K
            refine xA (by kernel_rfl) ?_
            clear hcA hfA hbA hcj hc0
            go_wp2
            go_roundg m
            case measure => exact Nat.lt_succ_self _
            case rel => exact ⟨j + 1, pd, l ++ [0], .slice Aa (l.length + 1) ca, by first | rfl | (simp [ej]; done), ⟨by have h1 := hj.out; simp; omega⟩, CF, by have h := HA.out; simp only [List.length_append, List.length_cons, List.length_nil, Nat.zero_add] at h; exact ⟨h⟩⟩
          · have hx2 : x = 1 := hx
            clear hx
            subst hx2
            refine xi (n := 11) (S := fun w' => w'.cell? ⟨D, 0, none⟩ = some v0) (ds := [10]) #[false, false, false, false, false, false, false, false, false, false, false] (by kernel_rfl) rfl rfl ((PG.cell0 (PG.drew HG.out))) (fun hHeld => ?_)
            refine zF (i := 0) (N := some 23) (v := ?_) (a' := ?_) #[true, false, false, false, false, false, false, false, false, false, false] rfl rfl (by kernel_rfl) (fun _ _ _ h => h) (Or.inl ⟨by rfl, ?_⟩) ?_ ?_
            rotate_left
            · intro w'
              go_simp
              with_reducible rfl
            rotate_left
            · simp only [Act.put, List.setIfInBounds_toArray, List.set_cons_zero, List.set_cons_succ, zn, zo]
              rfl
            refine zF (i := 3) (N := some 26) (v := ?_) (a' := ?_) #[true, false, false, true, false, false, false, false, false, false, false] rfl rfl (by kernel_rfl) (fun _ _ _ h => h) (Or.inl ⟨by rfl, ?_⟩) ?_ ?_
            rotate_left
            · intro w'
              go_simp
              with_reducible rfl
            rotate_left
            · simp only [Act.put, List.setIfInBounds_toArray, List.set_cons_zero, List.set_cons_succ, zn, zo]
              rfl
            refine yK (i := 1) (N := some 24) (v := ?_) (a' := ?_) #[true, true, false, true, false, false, false, false, false, false, false] rfl rfl (by kernel_rfl) (fun _ _ _ h => h) (Or.inl ⟨by rfl, ?_⟩) hHeld ?_ ?_
            rotate_left
            · intro w' s0
              go_simp
              with_reducible rfl
            rotate_left
            · simp only [Act.put, List.setIfInBounds_toArray, List.set_cons_zero, List.set_cons_succ, zn, zo]
              rfl
            refine join_ (σ := Nat) 6 #[true, true, true, true, true, false, false, false, false, false, false] (fun s => [(25, .slice (some ⟨s, 0, none⟩) 5 5), (27, .int .i64 2)]) (fun s w' => w'.cell? ⟨D, 0, none⟩ = some v0 ∧ za (PG w0 V w' g D s0_0 pd v0 (.slice none 0 0) l []) ∧ w'.cell? ⟨s, 2, none⟩ = some (.int .i64 1)) ?_ ?_
            rotate_left
            · intro hCont
              refine two_ (i := 2) (j := 4) (Ni := some 25) (Nj := some 27) #[true, true, true, true, false, false, false, false, false, false, false] #[true, true, false, true, true, false, false, false, false, false, false] rfl rfl rfl rfl (by kernel_rfl) (by decide) (by decide) (fun K hK => ?_) (fun K hK => ?_)
              · skip
                refine yI (w1 := ?_) (v := ?_) (by rfl) rfl ?_ ?_
                rotate_left 2
                · go_simp
                  constructor
                  · rfl
                  · rfl
                refine hK.out _ _ ((PG.cell0 (show PG w0 V _ g D s0_0 pc v0 (.slice none 0 0) l [] from by repeat (first | exact HG.out | apply PG.alloc | apply PG.drew)))) (fun hHeld => ?_)
                clear hK K
                refine zQ (a' := ?_) ?_ ?_
                rotate_left
                · show Act.put _ (some 25) _ = _
                  simp only [Act.put, List.setIfInBounds_toArray, List.set_cons_zero, List.set_cons_succ, zn, zo]
                  rfl
                refine yM (i := 4) (N := some 27) #[true, true, true, true, true, false, false, false, false, false, false] rfl rfl (by kernel_rfl) (by decide) (fun K hK => ?_)
                refine y7 Tryd.func56 (by kernel_rfl) rfl #[.pointer (some ⟨g, 0, none⟩), .int .i64 5] (by rfl) rfl rfl (by simp only [List.map_toArray, List.map_cons, List.map_nil]; rfl) ?_
                with_reducible refine (zi.calls k g s0_0 pc 5 2 pd w0 _ (by repeat (first | exact HG.out.I | apply ze.alloc | apply ze.drew)) (by repeat (first | exact HG.out.B | apply zc | apply zd)) PD.out).mono ?_
                rintro e wc ⟨rfl, hi2, hb2, hk2⟩
                refine ⟨_, rfl, ?_⟩
                have HG2 := za.mk (PG.keep (by repeat (first | exact HG.out | apply PG.alloc | apply PG.drew)) hi2 hb2 hk2)
                refine hK.out _ _ ((PG.cell0 (show PG w0 V _ g D s0_0 pd v0 (.slice none 0 0) l [] from by repeat (first | exact HG2.out | apply PG.alloc | apply PG.drew)))) (fun hHeld => ?_)
                clear hK K
                refine zQ (a' := ?_) ?_ ?_
                rotate_left
                · show Act.put _ (some 27) _ = _
                  simp only [Act.put, List.setIfInBounds_toArray, List.set_cons_zero, List.set_cons_succ, zn, zo]
                  rfl
                exact zQ (by simp only [yZ, Act.put, List.setIfInBounds_toArray, List.set_cons_zero, List.set_cons_succ]) (hCont _ _ ⟨(PG.cell0 (show PG w0 V _ g D s0_0 pd v0 (.slice none 0 0) l [] from by repeat (first | exact HG2.out | apply PG.alloc | apply PG.drew))), ⟨(show PG w0 V _ g D s0_0 pd v0 (.slice none 0 0) l [] from by repeat (first | exact HG2.out | apply PG.alloc | apply PG.drew))⟩, (zf (hk2.blk (heap_alloc_new _ _) (Nat.ne_of_gt (ze.lt HG.out.I)) (by simp)) 2).trans rfl⟩)
              · skip
                refine y7 Tryd.func56 (by kernel_rfl) rfl #[.pointer (some ⟨g, 0, none⟩), .int .i64 5] (by rfl) rfl rfl (by simp only [List.map_toArray, List.map_cons, List.map_nil]; rfl) ?_
                with_reducible refine (zi.calls k g s0_0 pc 5 2 pd w0 _ (by repeat (first | exact HG.out.I | apply ze.alloc | apply ze.drew)) (by repeat (first | exact HG.out.B | apply zc | apply zd)) PD.out).mono ?_
                rintro e wc ⟨rfl, hi2, hb2, hk2⟩
                refine ⟨_, rfl, ?_⟩
                have HG2 := za.mk (PG.keep (by repeat (first | exact HG.out | apply PG.alloc | apply PG.drew)) hi2 hb2 hk2)
                refine hK.out _ _ ((PG.cell0 (show PG w0 V _ g D s0_0 pd v0 (.slice none 0 0) l [] from by repeat (first | exact HG2.out | apply PG.alloc | apply PG.drew)))) (fun hHeld => ?_)
                clear hK K
                refine zQ (a' := ?_) ?_ ?_
                rotate_left
                · show Act.put _ (some 27) _ = _
                  simp only [Act.put, List.setIfInBounds_toArray, List.set_cons_zero, List.set_cons_succ, zn, zo]
                  rfl
                refine yM (i := 2) (N := some 25) #[true, true, true, true, true, false, false, false, false, false, false] rfl rfl (by kernel_rfl) (by decide) (fun K hK => ?_)
                refine yI (w1 := ?_) (v := ?_) (by rfl) rfl ?_ ?_
                rotate_left 2
                · go_simp
                  constructor
                  · rfl
                  · rfl
                refine hK.out _ _ ((PG.cell0 (show PG w0 V _ g D s0_0 pd v0 (.slice none 0 0) l [] from by repeat (first | exact HG2.out | apply PG.alloc | apply PG.drew)))) (fun hHeld => ?_)
                clear hK K
                refine zQ (a' := ?_) ?_ ?_
                rotate_left
                · show Act.put _ (some 25) _ = _
                  simp only [Act.put, List.setIfInBounds_toArray, List.set_cons_zero, List.set_cons_succ, zn, zo]
                  rfl
                exact zQ (by simp only [yZ, Act.put, List.setIfInBounds_toArray, List.set_cons_zero, List.set_cons_succ]) (hCont _ _ ⟨(PG.cell0 (show PG w0 V _ g D s0_0 pd v0 (.slice none 0 0) l [] from by repeat (first | exact HG2.out | apply PG.alloc | apply PG.drew))), ⟨(show PG w0 V _ g D s0_0 pd v0 (.slice none 0 0) l [] from by repeat (first | exact HG2.out | apply PG.alloc | apply PG.drew))⟩, (zf (heap_alloc_new _ _) 2).trans rfl⟩)
            rintro sL wj ⟨hHeld, HGj, hcj⟩
            refine zQ (a' := ?_) ?_ ?_
            rotate_left
            · simp only [yZ, Act.put, List.setIfInBounds_toArray, List.set_cons_zero, List.set_cons_succ]
              rfl
            refine zF (i := 5) (N := some 28) (v := ?_) (a' := ?_) #[true, true, true, true, true, true, false, false, false, false, false] rfl rfl (by kernel_rfl) (fun _ _ _ h => h) (Or.inl ⟨by rfl, ?_⟩) ?_ ?_
            rotate_left
            · intro w'
              go_simp
              with_reducible rfl
            rotate_left
            · simp only [Act.put, List.setIfInBounds_toArray, List.set_cons_zero, List.set_cons_succ, zn, zo]
              rfl
            refine yM (i := 6) (N := some 29) #[true, true, true, true, true, true, true, false, false, false, false] rfl rfl (by kernel_rfl) (by decide) (fun K hK => ?_)
            refine yI (w1 := ?_) (v := ?_) (by rfl) rfl ?_ ?_
            rotate_left 2
            · go_simp
              constructor
              · rfl
              · rfl
            refine hK.out _ _ (hHeld) (fun hHeld => ?_)
            clear hK K
            refine zQ (a' := ?_) ?_ ?_
            rotate_left
            · show Act.put _ (some 29) _ = _
              simp only [Act.put, List.setIfInBounds_toArray, List.set_cons_zero, List.set_cons_succ, zn, zo]
              rfl
            refine yM (i := 7) (N := some 30) #[true, true, true, true, true, true, true, true, false, false, false] rfl rfl (by kernel_rfl) (by decide) (fun K hK => ?_)
            refine yI (w1 := ?_) (v := ?_) (by rfl) rfl ?_ ?_
            rotate_left 2
            · go_simp
              constructor
              · rfl
              · rfl
            refine hK.out _ _ ((PG.cell0 (PG.alloc HGj.out _))) (fun hHeld => ?_)
            clear hK K
            refine zQ (a' := ?_) ?_ ?_
            rotate_left
            · show Act.put _ (some 30) _ = _
              simp only [Act.put, List.setIfInBounds_toArray, List.set_cons_zero, List.set_cons_succ, zn, zo]
              rfl
            refine yM (i := 8) (N := some 31) #[true, true, true, true, true, true, true, true, true, false, false] rfl rfl (by kernel_rfl) (by decide) (fun K hK => ?_)
            refine Kd.yW (Kd.int .i64) V.heap.size (by rfl) (.tmp 24) (.tmp 30) 22 3 (.int .i64 0) 8 (by rfl) Tryd.underlying22 (by kernel_rfl) (by rfl) (by decide) (by decide) v0 l 1 [.int .i64 1] (fun _ => True) (fun _ => False) (by rfl) (by first | rfl | (go_simp; done) | (simp; done)) (by rfl) (fun _ hk => hk.elim) (fun _ _ => trivial) (by exact HGj.out.r0) (Below.refl _ _) (by exact z7 HGj.out.K) (by have h1 := hj.out; have h2 := c1.out; omega) ?_
            intro va wa hra hba hga hata
            obtain ⟨Aa, ca, rfl⟩ := Kd.yn hra
            have HA := za.mk (PG.push0 HGj.out rfl rfl hra hba hga)
            have hbA := PG.grow0 HGj.out hga
            have hcA : wa.cell? ⟨D, 0, none⟩ = some v0 := (zf hbA 0).trans rfl
            have hfA : wa.frozen? ⟨D, 0, none⟩ = false := zg hbA 0
            refine hK.out _ _ (hcA) (fun hHeld => ?_)
            clear hK K
            refine zQ (a' := ?_) ?_ ?_
            rotate_left
            · show Act.put _ (some 31) _ = _
              simp only [Act.put, List.setIfInBounds_toArray, List.set_cons_zero, List.set_cons_succ, zn, zo]
              rfl
            refine zF (i := 9) (N := some 32) (v := ?_) (a' := ?_) #[true, true, true, true, true, true, true, true, true, true, false] rfl rfl (by kernel_rfl) (fun _ _ _ h => h) (Or.inl ⟨by rfl, ?_⟩) ?_ ?_
            rotate_left
            · intro w'
              go_simp
              with_reducible rfl
            rotate_left
            · simp only [Act.put, List.setIfInBounds_toArray, List.set_cons_zero, List.set_cons_succ, zn, zo]
              rfl
            refine last_ (i := 10) (N := none) #[true, true, true, true, true, true, true, true, true, true, true] rfl rfl (by kernel_rfl) (by decide) (fun K hK => ?_)
            refine skip_ (w1 := ?_) (by rfl) rfl ?_ ?_
            rotate_left
            · go_simp
              rfl
            refine hK.out _ _ ?_
            clear hK K
            refine xA (by kernel_rfl) ?_
            clear hcA hfA hbA hcj hc0
            go_wp2
            go_roundg m
            case measure => exact Nat.lt_succ_self _
            case rel => exact ⟨j + 1, pd, l ++ [1], .slice Aa (l.length + 1) ca, by first | rfl | (simp [ej]; done), ⟨by have h1 := hj.out; simp; omega⟩, CF, by have h := HA.out; simp only [List.length_append, List.length_cons, List.length_nil, Nat.zero_add] at h; exact ⟨h⟩⟩
          · have hx2 : x = 5 := hx
            clear hx
            subst hx2
            refine xi (n := 11) (S := fun w' => w'.cell? ⟨D, 0, none⟩ = some v0) (ds := [10]) #[false, false, false, false, false, false, false, false, false, false, false] (by kernel_rfl) rfl rfl ((PG.cell0 (PG.drew HG.out))) (fun hHeld => ?_)
            refine zF (i := 0) (N := some 23) (v := ?_) (a' := ?_) #[true, false, false, false, false, false, false, false, false, false, false] rfl rfl (by kernel_rfl) (fun _ _ _ h => h) (Or.inl ⟨by rfl, ?_⟩) ?_ ?_
            rotate_left
            · intro w'
              go_simp
              with_reducible rfl
            rotate_left
            · simp only [Act.put, List.setIfInBounds_toArray, List.set_cons_zero, List.set_cons_succ, zn, zo]
              rfl
            refine zF (i := 3) (N := some 26) (v := ?_) (a' := ?_) #[true, false, false, true, false, false, false, false, false, false, false] rfl rfl (by kernel_rfl) (fun _ _ _ h => h) (Or.inl ⟨by rfl, ?_⟩) ?_ ?_
            rotate_left
            · intro w'
              go_simp
              with_reducible rfl
            rotate_left
            · simp only [Act.put, List.setIfInBounds_toArray, List.set_cons_zero, List.set_cons_succ, zn, zo]
              rfl
            refine yK (i := 1) (N := some 24) (v := ?_) (a' := ?_) #[true, true, false, true, false, false, false, false, false, false, false] rfl rfl (by kernel_rfl) (fun _ _ _ h => h) (Or.inl ⟨by rfl, ?_⟩) hHeld ?_ ?_
            rotate_left
            · intro w' s0
              go_simp
              with_reducible rfl
            rotate_left
            · simp only [Act.put, List.setIfInBounds_toArray, List.set_cons_zero, List.set_cons_succ, zn, zo]
              rfl
            refine join_ (σ := Nat) 6 #[true, true, true, true, true, false, false, false, false, false, false] (fun s => [(25, .slice (some ⟨s, 0, none⟩) 5 5), (27, .int .i64 3)]) (fun s w' => w'.cell? ⟨D, 0, none⟩ = some v0 ∧ za (PG w0 V w' g D s0_0 pd v0 (.slice none 0 0) l []) ∧ w'.cell? ⟨s, 3, none⟩ = some (.int .i64 5)) ?_ ?_
            rotate_left
            · intro hCont
              refine two_ (i := 2) (j := 4) (Ni := some 25) (Nj := some 27) #[true, true, true, true, false, false, false, false, false, false, false] #[true, true, false, true, true, false, false, false, false, false, false] rfl rfl rfl rfl (by kernel_rfl) (by decide) (by decide) (fun K hK => ?_) (fun K hK => ?_)
              · skip
                refine yI (w1 := ?_) (v := ?_) (by rfl) rfl ?_ ?_
                rotate_left 2
                · go_simp
                  constructor
                  · rfl
                  · rfl
                refine hK.out _ _ ((PG.cell0 (show PG w0 V _ g D s0_0 pc v0 (.slice none 0 0) l [] from by repeat (first | exact HG.out | apply PG.alloc | apply PG.drew)))) (fun hHeld => ?_)
                clear hK K
                refine zQ (a' := ?_) ?_ ?_
                rotate_left
                · show Act.put _ (some 25) _ = _
                  simp only [Act.put, List.setIfInBounds_toArray, List.set_cons_zero, List.set_cons_succ, zn, zo]
                  rfl
                refine yM (i := 4) (N := some 27) #[true, true, true, true, true, false, false, false, false, false, false] rfl rfl (by kernel_rfl) (by decide) (fun K hK => ?_)
                refine y7 Tryd.func56 (by kernel_rfl) rfl #[.pointer (some ⟨g, 0, none⟩), .int .i64 5] (by rfl) rfl rfl (by simp only [List.map_toArray, List.map_cons, List.map_nil]; rfl) ?_
                with_reducible refine (zi.calls k g s0_0 pc 5 3 pd w0 _ (by repeat (first | exact HG.out.I | apply ze.alloc | apply ze.drew)) (by repeat (first | exact HG.out.B | apply zc | apply zd)) PD.out).mono ?_
                rintro e wc ⟨rfl, hi2, hb2, hk2⟩
                refine ⟨_, rfl, ?_⟩
                have HG2 := za.mk (PG.keep (by repeat (first | exact HG.out | apply PG.alloc | apply PG.drew)) hi2 hb2 hk2)
                refine hK.out _ _ ((PG.cell0 (show PG w0 V _ g D s0_0 pd v0 (.slice none 0 0) l [] from by repeat (first | exact HG2.out | apply PG.alloc | apply PG.drew)))) (fun hHeld => ?_)
                clear hK K
                refine zQ (a' := ?_) ?_ ?_
                rotate_left
                · show Act.put _ (some 27) _ = _
                  simp only [Act.put, List.setIfInBounds_toArray, List.set_cons_zero, List.set_cons_succ, zn, zo]
                  rfl
                exact zQ (by simp only [yZ, Act.put, List.setIfInBounds_toArray, List.set_cons_zero, List.set_cons_succ]) (hCont _ _ ⟨(PG.cell0 (show PG w0 V _ g D s0_0 pd v0 (.slice none 0 0) l [] from by repeat (first | exact HG2.out | apply PG.alloc | apply PG.drew))), ⟨(show PG w0 V _ g D s0_0 pd v0 (.slice none 0 0) l [] from by repeat (first | exact HG2.out | apply PG.alloc | apply PG.drew))⟩, (zf (hk2.blk (heap_alloc_new _ _) (Nat.ne_of_gt (ze.lt HG.out.I)) (by simp)) 3).trans rfl⟩)
              · skip
                refine y7 Tryd.func56 (by kernel_rfl) rfl #[.pointer (some ⟨g, 0, none⟩), .int .i64 5] (by rfl) rfl rfl (by simp only [List.map_toArray, List.map_cons, List.map_nil]; rfl) ?_
                with_reducible refine (zi.calls k g s0_0 pc 5 3 pd w0 _ (by repeat (first | exact HG.out.I | apply ze.alloc | apply ze.drew)) (by repeat (first | exact HG.out.B | apply zc | apply zd)) PD.out).mono ?_
                rintro e wc ⟨rfl, hi2, hb2, hk2⟩
                refine ⟨_, rfl, ?_⟩
                have HG2 := za.mk (PG.keep (by repeat (first | exact HG.out | apply PG.alloc | apply PG.drew)) hi2 hb2 hk2)
                refine hK.out _ _ ((PG.cell0 (show PG w0 V _ g D s0_0 pd v0 (.slice none 0 0) l [] from by repeat (first | exact HG2.out | apply PG.alloc | apply PG.drew)))) (fun hHeld => ?_)
                clear hK K
                refine zQ (a' := ?_) ?_ ?_
                rotate_left
                · show Act.put _ (some 27) _ = _
                  simp only [Act.put, List.setIfInBounds_toArray, List.set_cons_zero, List.set_cons_succ, zn, zo]
                  rfl
                refine yM (i := 2) (N := some 25) #[true, true, true, true, true, false, false, false, false, false, false] rfl rfl (by kernel_rfl) (by decide) (fun K hK => ?_)
                refine yI (w1 := ?_) (v := ?_) (by rfl) rfl ?_ ?_
                rotate_left 2
                · go_simp
                  constructor
                  · rfl
                  · rfl
                refine hK.out _ _ ((PG.cell0 (show PG w0 V _ g D s0_0 pd v0 (.slice none 0 0) l [] from by repeat (first | exact HG2.out | apply PG.alloc | apply PG.drew)))) (fun hHeld => ?_)
                clear hK K
                refine zQ (a' := ?_) ?_ ?_
                rotate_left
                · show Act.put _ (some 25) _ = _
                  simp only [Act.put, List.setIfInBounds_toArray, List.set_cons_zero, List.set_cons_succ, zn, zo]
                  rfl
                exact zQ (by simp only [yZ, Act.put, List.setIfInBounds_toArray, List.set_cons_zero, List.set_cons_succ]) (hCont _ _ ⟨(PG.cell0 (show PG w0 V _ g D s0_0 pd v0 (.slice none 0 0) l [] from by repeat (first | exact HG2.out | apply PG.alloc | apply PG.drew))), ⟨(show PG w0 V _ g D s0_0 pd v0 (.slice none 0 0) l [] from by repeat (first | exact HG2.out | apply PG.alloc | apply PG.drew))⟩, (zf (heap_alloc_new _ _) 3).trans rfl⟩)
            rintro sL wj ⟨hHeld, HGj, hcj⟩
            refine zQ (a' := ?_) ?_ ?_
            rotate_left
            · simp only [yZ, Act.put, List.setIfInBounds_toArray, List.set_cons_zero, List.set_cons_succ]
              rfl
            refine zF (i := 5) (N := some 28) (v := ?_) (a' := ?_) #[true, true, true, true, true, true, false, false, false, false, false] rfl rfl (by kernel_rfl) (fun _ _ _ h => h) (Or.inl ⟨by rfl, ?_⟩) ?_ ?_
            rotate_left
            · intro w'
              go_simp
              with_reducible rfl
            rotate_left
            · simp only [Act.put, List.setIfInBounds_toArray, List.set_cons_zero, List.set_cons_succ, zn, zo]
              rfl
            refine yM (i := 6) (N := some 29) #[true, true, true, true, true, true, true, false, false, false, false] rfl rfl (by kernel_rfl) (by decide) (fun K hK => ?_)
            refine yI (w1 := ?_) (v := ?_) (by rfl) rfl ?_ ?_
            rotate_left 2
            · go_simp
              constructor
              · rfl
              · rfl
            refine hK.out _ _ (hHeld) (fun hHeld => ?_)
            clear hK K
            refine zQ (a' := ?_) ?_ ?_
            rotate_left
            · show Act.put _ (some 29) _ = _
              simp only [Act.put, List.setIfInBounds_toArray, List.set_cons_zero, List.set_cons_succ, zn, zo]
              rfl
            refine yM (i := 7) (N := some 30) #[true, true, true, true, true, true, true, true, false, false, false] rfl rfl (by kernel_rfl) (by decide) (fun K hK => ?_)
            refine yI (w1 := ?_) (v := ?_) (by rfl) rfl ?_ ?_
            rotate_left 2
            · go_simp
              constructor
              · rfl
              · rfl
            refine hK.out _ _ ((PG.cell0 (PG.alloc HGj.out _))) (fun hHeld => ?_)
            clear hK K
            refine zQ (a' := ?_) ?_ ?_
            rotate_left
            · show Act.put _ (some 30) _ = _
              simp only [Act.put, List.setIfInBounds_toArray, List.set_cons_zero, List.set_cons_succ, zn, zo]
              rfl
            refine yM (i := 8) (N := some 31) #[true, true, true, true, true, true, true, true, true, false, false] rfl rfl (by kernel_rfl) (by decide) (fun K hK => ?_)
            refine Kd.yW (Kd.int .i64) V.heap.size (by rfl) (.tmp 24) (.tmp 30) 22 3 (.int .i64 0) 8 (by rfl) Tryd.underlying22 (by kernel_rfl) (by rfl) (by decide) (by decide) v0 l 5 [.int .i64 5] (fun _ => True) (fun _ => False) (by rfl) (by first | rfl | (go_simp; done) | (simp; done)) (by rfl) (fun _ hk => hk.elim) (fun _ _ => trivial) (by exact HGj.out.r0) (Below.refl _ _) (by exact z7 HGj.out.K) (by have h1 := hj.out; have h2 := c1.out; omega) ?_
            intro va wa hra hba hga hata
            obtain ⟨Aa, ca, rfl⟩ := Kd.yn hra
            have HA := za.mk (PG.push0 HGj.out rfl rfl hra hba hga)
            have hbA := PG.grow0 HGj.out hga
            have hcA : wa.cell? ⟨D, 0, none⟩ = some v0 := (zf hbA 0).trans rfl
            have hfA : wa.frozen? ⟨D, 0, none⟩ = false := zg hbA 0
            refine hK.out _ _ (hcA) (fun hHeld => ?_)
            clear hK K
            refine zQ (a' := ?_) ?_ ?_
            rotate_left
            · show Act.put _ (some 31) _ = _
              simp only [Act.put, List.setIfInBounds_toArray, List.set_cons_zero, List.set_cons_succ, zn, zo]
              rfl
            refine zF (i := 9) (N := some 32) (v := ?_) (a' := ?_) #[true, true, true, true, true, true, true, true, true, true, false] rfl rfl (by kernel_rfl) (fun _ _ _ h => h) (Or.inl ⟨by rfl, ?_⟩) ?_ ?_
            rotate_left
            · intro w'
              go_simp
              with_reducible rfl
            rotate_left
            · simp only [Act.put, List.setIfInBounds_toArray, List.set_cons_zero, List.set_cons_succ, zn, zo]
              rfl
            refine last_ (i := 10) (N := none) #[true, true, true, true, true, true, true, true, true, true, true] rfl rfl (by kernel_rfl) (by decide) (fun K hK => ?_)
            refine skip_ (w1 := ?_) (by rfl) rfl ?_ ?_
            rotate_left
            · go_simp
              rfl
            refine hK.out _ _ ?_
            clear hK K
            refine xA (by kernel_rfl) ?_
            clear hcA hfA hbA hcj hc0
            go_wp2
            go_roundg m
            case measure => exact Nat.lt_succ_self _
            case rel => exact ⟨j + 1, pd, l ++ [5], .slice Aa (l.length + 1) ca, by first | rfl | (simp [ej]; done), ⟨by have h1 := hj.out; simp; omega⟩, CF, by have h := HA.out; simp only [List.length_append, List.length_cons, List.length_nil, Nat.zero_add] at h; exact ⟨h⟩⟩
          · have hx2 : x = 99 := hx
            clear hx
            subst hx2
            refine xi (n := 11) (S := fun w' => w'.cell? ⟨D, 0, none⟩ = some v0) (ds := [10]) #[false, false, false, false, false, false, false, false, false, false, false] (by kernel_rfl) rfl rfl ((PG.cell0 (PG.drew HG.out))) (fun hHeld => ?_)
            refine zF (i := 0) (N := some 23) (v := ?_) (a' := ?_) #[true, false, false, false, false, false, false, false, false, false, false] rfl rfl (by kernel_rfl) (fun _ _ _ h => h) (Or.inl ⟨by rfl, ?_⟩) ?_ ?_
            rotate_left
            · intro w'
              go_simp
              with_reducible rfl
            rotate_left
            · simp only [Act.put, List.setIfInBounds_toArray, List.set_cons_zero, List.set_cons_succ, zn, zo]
              rfl
            refine zF (i := 3) (N := some 26) (v := ?_) (a' := ?_) #[true, false, false, true, false, false, false, false, false, false, false] rfl rfl (by kernel_rfl) (fun _ _ _ h => h) (Or.inl ⟨by rfl, ?_⟩) ?_ ?_
            rotate_left
            · intro w'
              go_simp
              with_reducible rfl
            rotate_left
            · simp only [Act.put, List.setIfInBounds_toArray, List.set_cons_zero, List.set_cons_succ, zn, zo]
              rfl
            refine yK (i := 1) (N := some 24) (v := ?_) (a' := ?_) #[true, true, false, true, false, false, false, false, false, false, false] rfl rfl (by kernel_rfl) (fun _ _ _ h => h) (Or.inl ⟨by rfl, ?_⟩) hHeld ?_ ?_
            rotate_left
            · intro w' s0
              go_simp
              with_reducible rfl
            rotate_left
            · simp only [Act.put, List.setIfInBounds_toArray, List.set_cons_zero, List.set_cons_succ, zn, zo]
              rfl
            refine join_ (σ := Nat) 6 #[true, true, true, true, true, false, false, false, false, false, false] (fun s => [(25, .slice (some ⟨s, 0, none⟩) 5 5), (27, .int .i64 4)]) (fun s w' => w'.cell? ⟨D, 0, none⟩ = some v0 ∧ za (PG w0 V w' g D s0_0 pd v0 (.slice none 0 0) l []) ∧ w'.cell? ⟨s, 4, none⟩ = some (.int .i64 99)) ?_ ?_
            rotate_left
            · intro hCont
              refine two_ (i := 2) (j := 4) (Ni := some 25) (Nj := some 27) #[true, true, true, true, false, false, false, false, false, false, false] #[true, true, false, true, true, false, false, false, false, false, false] rfl rfl rfl rfl (by kernel_rfl) (by decide) (by decide) (fun K hK => ?_) (fun K hK => ?_)
              · skip
                refine yI (w1 := ?_) (v := ?_) (by rfl) rfl ?_ ?_
                rotate_left 2
                · go_simp
                  constructor
                  · rfl
                  · rfl
                refine hK.out _ _ ((PG.cell0 (show PG w0 V _ g D s0_0 pc v0 (.slice none 0 0) l [] from by repeat (first | exact HG.out | apply PG.alloc | apply PG.drew)))) (fun hHeld => ?_)
                clear hK K
                refine zQ (a' := ?_) ?_ ?_
                rotate_left
                · show Act.put _ (some 25) _ = _
                  simp only [Act.put, List.setIfInBounds_toArray, List.set_cons_zero, List.set_cons_succ, zn, zo]
                  rfl
                refine yM (i := 4) (N := some 27) #[true, true, true, true, true, false, false, false, false, false, false] rfl rfl (by kernel_rfl) (by decide) (fun K hK => ?_)
                refine y7 Tryd.func56 (by kernel_rfl) rfl #[.pointer (some ⟨g, 0, none⟩), .int .i64 5] (by rfl) rfl rfl (by simp only [List.map_toArray, List.map_cons, List.map_nil]; rfl) ?_
                with_reducible refine (zi.calls k g s0_0 pc 5 4 pd w0 _ (by repeat (first | exact HG.out.I | apply ze.alloc | apply ze.drew)) (by repeat (first | exact HG.out.B | apply zc | apply zd)) PD.out).mono ?_
                rintro e wc ⟨rfl, hi2, hb2, hk2⟩
                refine ⟨_, rfl, ?_⟩
                have HG2 := za.mk (PG.keep (by repeat (first | exact HG.out | apply PG.alloc | apply PG.drew)) hi2 hb2 hk2)
                refine hK.out _ _ ((PG.cell0 (show PG w0 V _ g D s0_0 pd v0 (.slice none 0 0) l [] from by repeat (first | exact HG2.out | apply PG.alloc | apply PG.drew)))) (fun hHeld => ?_)
                clear hK K
                refine zQ (a' := ?_) ?_ ?_
                rotate_left
                · show Act.put _ (some 27) _ = _
                  simp only [Act.put, List.setIfInBounds_toArray, List.set_cons_zero, List.set_cons_succ, zn, zo]
                  rfl
                exact zQ (by simp only [yZ, Act.put, List.setIfInBounds_toArray, List.set_cons_zero, List.set_cons_succ]) (hCont _ _ ⟨(PG.cell0 (show PG w0 V _ g D s0_0 pd v0 (.slice none 0 0) l [] from by repeat (first | exact HG2.out | apply PG.alloc | apply PG.drew))), ⟨(show PG w0 V _ g D s0_0 pd v0 (.slice none 0 0) l [] from by repeat (first | exact HG2.out | apply PG.alloc | apply PG.drew))⟩, (zf (hk2.blk (heap_alloc_new _ _) (Nat.ne_of_gt (ze.lt HG.out.I)) (by simp)) 4).trans rfl⟩)
              · skip
                refine y7 Tryd.func56 (by kernel_rfl) rfl #[.pointer (some ⟨g, 0, none⟩), .int .i64 5] (by rfl) rfl rfl (by simp only [List.map_toArray, List.map_cons, List.map_nil]; rfl) ?_
                with_reducible refine (zi.calls k g s0_0 pc 5 4 pd w0 _ (by repeat (first | exact HG.out.I | apply ze.alloc | apply ze.drew)) (by repeat (first | exact HG.out.B | apply zc | apply zd)) PD.out).mono ?_
                rintro e wc ⟨rfl, hi2, hb2, hk2⟩
                refine ⟨_, rfl, ?_⟩
                have HG2 := za.mk (PG.keep (by repeat (first | exact HG.out | apply PG.alloc | apply PG.drew)) hi2 hb2 hk2)
                refine hK.out _ _ ((PG.cell0 (show PG w0 V _ g D s0_0 pd v0 (.slice none 0 0) l [] from by repeat (first | exact HG2.out | apply PG.alloc | apply PG.drew)))) (fun hHeld => ?_)
                clear hK K
                refine zQ (a' := ?_) ?_ ?_
                rotate_left
                · show Act.put _ (some 27) _ = _
                  simp only [Act.put, List.setIfInBounds_toArray, List.set_cons_zero, List.set_cons_succ, zn, zo]
                  rfl
                refine yM (i := 2) (N := some 25) #[true, true, true, true, true, false, false, false, false, false, false] rfl rfl (by kernel_rfl) (by decide) (fun K hK => ?_)
                refine yI (w1 := ?_) (v := ?_) (by rfl) rfl ?_ ?_
                rotate_left 2
                · go_simp
                  constructor
                  · rfl
                  · rfl
                refine hK.out _ _ ((PG.cell0 (show PG w0 V _ g D s0_0 pd v0 (.slice none 0 0) l [] from by repeat (first | exact HG2.out | apply PG.alloc | apply PG.drew)))) (fun hHeld => ?_)
                clear hK K
                refine zQ (a' := ?_) ?_ ?_
                rotate_left
                · show Act.put _ (some 25) _ = _
                  simp only [Act.put, List.setIfInBounds_toArray, List.set_cons_zero, List.set_cons_succ, zn, zo]
                  rfl
                exact zQ (by simp only [yZ, Act.put, List.setIfInBounds_toArray, List.set_cons_zero, List.set_cons_succ]) (hCont _ _ ⟨(PG.cell0 (show PG w0 V _ g D s0_0 pd v0 (.slice none 0 0) l [] from by repeat (first | exact HG2.out | apply PG.alloc | apply PG.drew))), ⟨(show PG w0 V _ g D s0_0 pd v0 (.slice none 0 0) l [] from by repeat (first | exact HG2.out | apply PG.alloc | apply PG.drew))⟩, (zf (heap_alloc_new _ _) 4).trans rfl⟩)
            rintro sL wj ⟨hHeld, HGj, hcj⟩
            refine zQ (a' := ?_) ?_ ?_
            rotate_left
            · simp only [yZ, Act.put, List.setIfInBounds_toArray, List.set_cons_zero, List.set_cons_succ]
              rfl
            refine zF (i := 5) (N := some 28) (v := ?_) (a' := ?_) #[true, true, true, true, true, true, false, false, false, false, false] rfl rfl (by kernel_rfl) (fun _ _ _ h => h) (Or.inl ⟨by rfl, ?_⟩) ?_ ?_
            rotate_left
            · intro w'
              go_simp
              with_reducible rfl
            rotate_left
            · simp only [Act.put, List.setIfInBounds_toArray, List.set_cons_zero, List.set_cons_succ, zn, zo]
              rfl
            refine yM (i := 6) (N := some 29) #[true, true, true, true, true, true, true, false, false, false, false] rfl rfl (by kernel_rfl) (by decide) (fun K hK => ?_)
            refine yI (w1 := ?_) (v := ?_) (by rfl) rfl ?_ ?_
            rotate_left 2
            · go_simp
              constructor
              · rfl
              · rfl
            refine hK.out _ _ (hHeld) (fun hHeld => ?_)
            clear hK K
            refine zQ (a' := ?_) ?_ ?_
            rotate_left
            · show Act.put _ (some 29) _ = _
              simp only [Act.put, List.setIfInBounds_toArray, List.set_cons_zero, List.set_cons_succ, zn, zo]
              rfl
            refine yM (i := 7) (N := some 30) #[true, true, true, true, true, true, true, true, false, false, false] rfl rfl (by kernel_rfl) (by decide) (fun K hK => ?_)
            refine yI (w1 := ?_) (v := ?_) (by rfl) rfl ?_ ?_
            rotate_left 2
            · go_simp
              constructor
              · rfl
              · rfl
            refine hK.out _ _ ((PG.cell0 (PG.alloc HGj.out _))) (fun hHeld => ?_)
            clear hK K
            refine zQ (a' := ?_) ?_ ?_
            rotate_left
            · show Act.put _ (some 30) _ = _
              simp only [Act.put, List.setIfInBounds_toArray, List.set_cons_zero, List.set_cons_succ, zn, zo]
              rfl
            refine yM (i := 8) (N := some 31) #[true, true, true, true, true, true, true, true, true, false, false] rfl rfl (by kernel_rfl) (by decide) (fun K hK => ?_)
            refine Kd.yW (Kd.int .i64) V.heap.size (by rfl) (.tmp 24) (.tmp 30) 22 3 (.int .i64 0) 8 (by rfl) Tryd.underlying22 (by kernel_rfl) (by rfl) (by decide) (by decide) v0 l 99 [.int .i64 99] (fun _ => True) (fun _ => False) (by rfl) (by first | rfl | (go_simp; done) | (simp; done)) (by rfl) (fun _ hk => hk.elim) (fun _ _ => trivial) (by exact HGj.out.r0) (Below.refl _ _) (by exact z7 HGj.out.K) (by have h1 := hj.out; have h2 := c1.out; omega) ?_
            intro va wa hra hba hga hata
            obtain ⟨Aa, ca, rfl⟩ := Kd.yn hra
            have HA := za.mk (PG.push0 HGj.out rfl rfl hra hba hga)
            have hbA := PG.grow0 HGj.out hga
            have hcA : wa.cell? ⟨D, 0, none⟩ = some v0 := (zf hbA 0).trans rfl
            have hfA : wa.frozen? ⟨D, 0, none⟩ = false := zg hbA 0
            refine hK.out _ _ (hcA) (fun hHeld => ?_)
            clear hK K
            refine zQ (a' := ?_) ?_ ?_
            rotate_left
            · show Act.put _ (some 31) _ = _
              simp only [Act.put, List.setIfInBounds_toArray, List.set_cons_zero, List.set_cons_succ, zn, zo]
              rfl
            refine zF (i := 9) (N := some 32) (v := ?_) (a' := ?_) #[true, true, true, true, true, true, true, true, true, true, false] rfl rfl (by kernel_rfl) (fun _ _ _ h => h) (Or.inl ⟨by rfl, ?_⟩) ?_ ?_
            rotate_left
            · intro w'
              go_simp
              with_reducible rfl
            rotate_left
            · simp only [Act.put, List.setIfInBounds_toArray, List.set_cons_zero, List.set_cons_succ, zn, zo]
              rfl
            refine last_ (i := 10) (N := none) #[true, true, true, true, true, true, true, true, true, true, true] rfl rfl (by kernel_rfl) (by decide) (fun K hK => ?_)
            refine skip_ (w1 := ?_) (by rfl) rfl ?_ ?_
            rotate_left
            · go_simp
              rfl
            refine hK.out _ _ ?_
            clear hK K
            refine xA (by kernel_rfl) ?_
            clear hcA hfA hbA hcj hc0
            go_wp2
            go_roundg m
            case measure => exact Nat.lt_succ_self _
            case rel => exact ⟨j + 1, pd, l ++ [99], .slice Aa (l.length + 1) ca, by first | rfl | (simp [ej]; done), ⟨by have h1 := hj.out; simp; omega⟩, CF, by have h := HA.out; simp only [List.length_append, List.length_cons, List.length_nil, Nat.zero_add] at h; exact ⟨h⟩⟩
end Go.Proofs.YtoeepmcaabmjkaaDoor.QPO
