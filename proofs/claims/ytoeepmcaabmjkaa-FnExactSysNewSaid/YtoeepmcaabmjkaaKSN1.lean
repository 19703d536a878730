/- Part 1 of what FnExactSysNew leans on: contracts of Go functions, and plain lemmas, each under its own premises. Put together by wip/tools/pack.py. -/
import Derived.Lib.SliceRun
import Derived.Test.YtoeepmcaabmjkaaKSN0
namespace Go.Proofs.YtoeepmcaabmjkaaW.PrintWords
open Go.RowKit
namespace Kd
section
variable {α : Type} {d : Kd α} {e base n cap g : Nat} {ok ok' okp : Nat → Prop} {w w1 W : World} {v v1 : Value} {xs ys : List α}
/-- What was made just now. -/
theorem N_made {rows : List (List Value)} (hR : (raw d.sz).R e w1 base (fun k => k = W.heap.size) v1 rows) (hg : W.grownBy w1 none) (hat : ∃ b, v1.ownBlock = some b ∧ W.heap.size ≤ b) (hl : rows.length = xs.length) (hf : ∀ (j : Nat) (x : α) (c : List Value), xs[j]? = some x → rows[j]? = some c → FK d W okp x c)
    (hok : ∀ k, okp k → ok k) (hfresh : ok W.heap.size) : N d e w1 base ok v1 xs := by
  obtain ⟨b, hb, hle⟩ := hat
  refine ⟨fun k hk => by rw [hR.1 k hk]; exact hfresh, rows, hl, raw_tight hR, fun j x c hx hc => ?_⟩
  refine FK_mono (FK_step (FK_bound (hf j x c hx hc)) (fun k hk hlt => hg.block k hlt (by simp))) (fun k hk => ⟨hok k hk.1, fun he => ?_⟩)
  rw [hb] at he
  injection he with he
  have := hk.2
  omega
end
section
variable {P : Program} {ops : Array Oper} {rest : List Oper} {o : Oper} {a : Act} {Q : Exit → Act → World → Prop} {Kc : Act → World → Prop} {α : Type}
/-- A literal '[]T{..}': inner its cells; what the elements lead to is okp. -/
theorem N_lit (d : Kd α) {w0 W : World} (base e : Nat) (hgd : o.guard = none) {N' : Tmp} (_hd : o.dst = some N') {xs : List α} {inner : List Value} {ok okp : Nat → Prop}
    (hrun : (execOp a.eval o).run P W = .ok (.value (.slice (some ⟨W.heap.size, 0, none⟩) xs.length xs.length)) (W.alloc (.cells inner.toArray e)))
    (hrep : Reps (FK d W okp) d.sz xs inner) (hok : ∀ k, okp k → ok k) (hfresh : ok W.heap.size) (HB : Below base w0 W) (hbase : base ≤ W.heap.size) (hm : xs.length ≤ 9223372036854775807)
    (h : ∀ v1 w1, N d e w1 base ok v1 xs → Below base w0 w1 → W.grownBy w1 none → (∃ b, v1.ownBlock = some b ∧ W.heap.size ≤ b) → wpList P ops Q rest (a.put o.dst v1) w1) :
    wpList P ops Q (o :: rest) a W := by
  refine R_lit (raw d.sz) base e hgd _hd (xs := chunks d.sz xs.length inner) (inner := inner) (ok := fun k => k = W.heap.size) (okp := fun _ => False) (by rw [chunks_length]; exact hrun) (reps_raw hrep (fun y c hk => ⟨d.K_len (FK_now hk), d.K_one (FK_now hk)⟩)) (fun _ hk => hk.elim) rfl HB hbase (by rw [chunks_length]; exact hm) ?_
  intro v1 w1 hr hb hg hat
  exact h v1 w1 (N_made hr hg hat (chunks_length _ _ _) (fun j y c hy hc => by rw [chunks_get hc]; exact hrep.2 j y hy) hok hfresh) hb hg hat
end
end Kd
end Go.Proofs.YtoeepmcaabmjkaaW.PrintWords
-- PRINTED WORDS (module Derived/Print/More.lean): go-gate-2's additions: an AI agent of Go's test side, Tue Nov 17 2026; no person has read it. Lean checks it.
namespace Go.Proofs.YtoeepmcaabmjkaaW.PrintMore
open Go.RowKit Go.Proofs.YtoeepmcaabmjkaaW.PrintWords
namespace Kd
open Go.Proofs.YtoeepmcaabmjkaaW.PrintWords.Kd
end Kd
namespace Kd
open Go.Proofs.YtoeepmcaabmjkaaW.PrintWords.Kd
section
variable {α : Type} {d : Kd α} {e base g N : Nat} {ok : Nat → Prop} {W w1 : World} {u v : Value} {xs : List α}
end
end Kd
/-- 'max' and 'min' of two whole numbers. -/
theorem max2_int (k k' : IntKind) (x y : Int) : Builtin.max2 (.int k x) (.int k' y) = pure (.int k (if x < y then y else x)) := by simp only [Builtin.max2, gt_iff_lt]
theorem min2_int (k k' : IntKind) (x y : Int) : Builtin.min2 (.int k x) (.int k' y) = pure (.int k (if y < x then y else x)) := by simp only [Builtin.min2]
theorem max_two (ats : Array TypeId) (ty : TypeId) (a b : Value) : Builtin.max_ ats ty #[a, b] = (Builtin.max2 a b >>= fun s => pure s) := by simp only [Builtin.max_, List.foldlM_cons, List.foldlM_nil]
theorem min_two (ats : Array TypeId) (ty : TypeId) (a b : Value) : Builtin.min_ ats ty #[a, b] = (Builtin.min2 a b >>= fun s => pure s) := by simp only [Builtin.min_, List.foldlM_cons, List.foldlM_nil]
theorem max_three (ats : Array TypeId) (ty : TypeId) (a b c : Value) : Builtin.max_ ats ty #[a, b, c] = (Builtin.max2 a b >>= fun s => Builtin.max2 s c >>= fun s => pure s) := by simp only [Builtin.max_, List.foldlM_cons, List.foldlM_nil]
theorem min_three (ats : Array TypeId) (ty : TypeId) (a b c : Value) : Builtin.min_ ats ty #[a, b, c] = (Builtin.min2 a b >>= fun s => Builtin.min2 s c >>= fun s => pure s) := by simp only [Builtin.min_, List.foldlM_cons, List.foldlM_nil]
theorem max_four (ats : Array TypeId) (ty : TypeId) (a b c d : Value) : Builtin.max_ ats ty #[a, b, c, d] = (Builtin.max2 a b >>= fun s => Builtin.max2 s c >>= fun s => Builtin.max2 s d >>= fun s => pure s) := by simp only [Builtin.max_, List.foldlM_cons, List.foldlM_nil]
theorem min_four (ats : Array TypeId) (ty : TypeId) (a b c d : Value) : Builtin.min_ ats ty #[a, b, c, d] = (Builtin.min2 a b >>= fun s => Builtin.min2 s c >>= fun s => Builtin.min2 s d >>= fun s => pure s) := by simp only [Builtin.min_, List.foldlM_cons, List.foldlM_nil]
end Go.Proofs.YtoeepmcaabmjkaaW.PrintMore
namespace Go.Proofs.YtoeepmcaabmjkaaW.PrintWords
open Go.RowKit
section
variable {P : Program} {ops : Array Oper} {rest : List Oper} {o : Oper} {a : Act} {Q : Exit → Act → World → Prop} {W : World}
/-- The operation is a call of this function (a cheap look ahead of a dear step). -/
theorem gate_callee {f : FuncId} {as : Array Operand} {ts : Array TypeId} (_ho : o.op = .call { callee := .value (.func f), args := as, argTypes := ts }) (h : wpList P ops Q (o :: rest) a W) : wpList P ops Q (o :: rest) a W := h
/-- The operation is a builtin over these places. -/
theorem gate_builtin {b : Builtin} {xs : Array Operand} {ts : Array TypeId} (_ho : o.op = .call { callee := .builtin b, args := xs, argTypes := ts }) (h : wpList P ops Q (o :: rest) a W) : wpList P ops Q (o :: rest) a W := h
end
namespace Kd
section
variable {α : Type} {d : Kd α} {e base : Nat} {ok : Nat → Prop} {W w1 : World} {v : Value} {xs : List α}
end
section
variable {α : Type} {d : Kd α} {e base g n cap : Nat} {ok oki okp : Nat → Prop} {W : World} {xs : List α} {i : Int} {c : List Value}
end
section
variable {α : Type} {d : Kd α} {e base b b' g N : Nat} {ok ok1 : Nat → Prop} {W W2 w1 : World} {u v : Value} {xs ys : List α} {S : Nat → Prop}
end
end Kd
end Go.Proofs.YtoeepmcaabmjkaaW.PrintWords
namespace Go.Proofs.YtoeepmcaabmjkaaW.PrintWords
open Go.RowKit
namespace Kd
/-- A row that is only read, told by its value: its form, its length, what it leads to (in ok). e and base say nothing; they make it as the others are. -/
def V {α : Type} (d : Kd α) (_e : Nat) (W : World) (_base : Nat) (ok : Nat → Prop) (v : Value) (xs : List α) : Prop := ∃ A c, v = .slice A xs.length c ∧ xs.length ≤ c ∧ F d W ok A xs.length xs
section
variable {α β : Type} {d : Kd α} {e base base' n m c g N' lo hi : Nat} {ok ok' S : Nat → Prop} {w W w1 : World} {A : Option Addr} {ad : Addr} {u v v1 : Value} {xs : List α}
theorem V_nil (d : Kd α) (e : Nat) (W : World) (base : Nat) (ok : Nat → Prop) : V d e W base ok (.slice none 0 0) [] := ⟨none, 0, rfl, Nat.le_refl _, F_nil d W ok⟩
theorem N_afterv (h : N d e W base (fun k => ok k ∧ some k ≠ v.ownBlock) u xs) (hg : W.grownBy w1 v.ownBlock) (hat : v1.ownBlock = v.ownBlock ∨ ∃ b, v1.ownBlock = some b ∧ W.heap.size ≤ b) : N d e w1 base (fun k => ok k ∧ some k ≠ v1.ownBlock) u xs := N_after h hg hat
theorem R_newM {M : Nat → Prop} (h : d.R e w1 W.heap.size ok v xs) (hle : w.heap.size ≤ W.heap.size) (hM : ∀ k, w.heap.size ≤ k → M k) : d.R e w1 W.heap.size (fun k => M k ∧ ok k) v xs := R_mono (R_bound h) (fun k hk => ⟨hM k (Nat.le_trans hle hk.2.1), hk.1⟩)
end
end Kd
end Go.Proofs.YtoeepmcaabmjkaaW.PrintWords
namespace Go.Proofs.YtoeepmcaabmjkaaW.PrintWords
open Go.RowKit
def IsI (v : Option Value) : Prop := ∃ z : Int, v = some (.int .i64 z)
/-- Whole numbers are written over whole numbers, in blocks of P alone. -/
structure IntsOnly (P : Nat → Prop) (w w' : World) : Prop where
  os : w'.os = w.os
  tape : w'.tape = w.tape
  output : w'.output = w.output
  size : w'.heap.size = w.heap.size
  block : ∀ k, ¬ P k → w'.heap[k]? = w.heap[k]?
  int : ∀ a, IsI (w.cell? a) → IsI (w'.cell? a)
  other : ∀ a v, w.cell? a = some v → (∀ z, v ≠ .int .i64 z) → w'.cell? a = some v
  frozen : ∀ a, w'.frozen? a = w.frozen? a
theorem IntsOnly.refl (P : Nat → Prop) (w : World) : IntsOnly P w w := ⟨rfl, rfl, rfl, rfl, fun _ _ => rfl, fun _ h => h, fun _ _ h _ => h, fun _ => rfl⟩
theorem IntsOnly.trans {P : Nat → Prop} {a b c : World} (h : IntsOnly P a b) (k : IntsOnly P b c) : IntsOnly P a c :=
  ⟨k.os.trans h.os, k.tape.trans h.tape, k.output.trans h.output, k.size.trans h.size, fun i hi => (k.block i hi).trans (h.block i hi), fun x hx => k.int x (h.int x hx), fun x v hx hv => k.other x v (h.other x v hx hv) hv, fun x => (k.frozen x).trans (h.frozen x)⟩
theorem IntsOnly.drewN {P : Nat → Prop} {a b : World} (h : IntsOnly P a b) (m : Nat) : IntsOnly P a (b.drewN m) := ⟨h.os, h.tape, h.output, h.size, h.block, h.int, h.other, h.frozen⟩
theorem IntsOnly.drew {P : Nat → Prop} {a b : World} (h : IntsOnly P a b) : IntsOnly P a b.drew := ⟨h.os, h.tape, h.output, h.size, h.block, h.int, h.other, h.frozen⟩
theorem IntsOnly.mono {P Q : Nat → Prop} {a b : World} (h : IntsOnly P a b) (hq : ∀ k, P k → Q k) : IntsOnly Q a b :=
  ⟨h.os, h.tape, h.output, h.size, fun k hk => h.block k (fun hp => hk (hq k hp)), h.int, h.other, h.frozen⟩
theorem IntsOnly.set {P : Nat → Prop} {a b : World} (h : IntsOnly P a b) {p : Addr} (hp : P p.block) (hc : IsI (b.cell? p)) (z : Int) : IntsOnly P a (b.setCell p (.int .i64 z)) := by
  refine h.trans ⟨rfl, rfl, rfl, by simp [World.setCell], fun k hk => ?_, fun x hx => ?_, fun x v hx hv => ?_, fun x => World.frozen?_setCell _ _ _ _⟩
  · exact Below.heap_setCell b p _ k (fun e => hk (e ▸ hp))
  · by_cases e : p = x
    · subst e
      obtain ⟨z0, hz⟩ := hx
      exact ⟨z, World.cell?_setCell_same _ _ _ hz⟩
    · rw [World.cell?_setCell_other _ _ _ _ e]
      exact hx
  · by_cases e : p = x
    · subst e
      obtain ⟨z0, hz⟩ := hc
      rw [hz] at hx
      injection hx with hx
      exact absurd hx.symm (hv z0)
    · rw [World.cell?_setCell_other _ _ _ _ e]
      exact hx
theorem IntsOnly.put {P : Nat → Prop} {w b : World} {g j : Nat} (h : IntsOnly P w b) (hp : P g) (hc : IsI (w.cell? ⟨g, j, none⟩)) (z : Int) : IntsOnly P w (b.setCell ⟨g, j, none⟩ (.int .i64 z)) := h.set hp (h.int _ hc) z
theorem IntsOnly.below {P : Nat → Prop} {w0 a b : World} (h : IntsOnly P a b) (hB : Below w0.heap.size w0 a) (hP : ∀ k, P k → w0.heap.size ≤ k) : Below w0.heap.size w0 b :=
  ⟨h.os.trans hB.os, h.tape.trans hB.tape, h.output.trans hB.output, by rw [h.size]; exact hB.size, fun k hk => (h.block k (fun hp => by have := hP k hp; omega)).trans (hB.block k hk)⟩
theorem IntsOnly.kept {P : Nat → Prop} {a b : World} (h : IntsOnly P a b) : Kept a b P := ⟨by rw [h.size]; exact Nat.le_refl _, fun k _ hk => h.block k hk⟩
/-- A row of n elements of m whole numbers each, at the head of a block of P. -/
def ShR (m : Nat) (w : World) (P : Nat → Prop) (A : Option Addr) (n : Nat) : Prop :=
  n ≤ 9223372036854775807 ∧ (0 < n → ∃ g, A = some ⟨g, 0, none⟩ ∧ P g ∧ ∀ j, j < n * m → IsI (w.cell? ⟨g, j, none⟩) ∧ w.frozen? ⟨g, j, none⟩ = false)
theorem ShR.step {m : Nat} {w w' : World} {P Q : Nat → Prop} {A : Option Addr} {n : Nat} (h : ShR m w P A n) (hi : IntsOnly Q w w') : ShR m w' P A n :=
  ⟨h.1, fun hn => by
    obtain ⟨g, e, hp, hc⟩ := h.2 hn
    exact ⟨g, e, hp, fun j hj => ⟨hi.int _ (hc j hj).1, by rw [hi.frozen]; exact (hc j hj).2⟩⟩⟩
theorem ShR.mono {m : Nat} {w : World} {P Q : Nat → Prop} {A : Option Addr} {n : Nat} (h : ShR m w P A n) (hq : ∀ k, P k → Q k) : ShR m w Q A n :=
  ⟨h.1, fun hn => by
    obtain ⟨g, e, hp, hc⟩ := h.2 hn
    exact ⟨g, e, hq g hp, hc⟩⟩
theorem ShR_of_R {α : Type} {d : Kd α} {e : Nat} {w : World} {base n c : Nat} {P : Nat → Prop} {A : Option Addr} {l : List α} (h : d.R e w base P (.slice A n c) l) (hp : 0 < d.sz) (z : α)
    (hint : ∀ {w : World} {base : Nat} {ok : Nat → Prop} {x : α} {cs : List Value}, d.M w base ok x cs → ∀ u ∈ cs, ∃ z : Int, u = .int .i64 z) : n = l.length ∧ ShR d.sz w (fun k_ => P k_ ∧ base ≤ k_) A l.length := by
  have hr := Kd.R_reads' h
  have hn : n = l.length := hr.1
  subst hn
  refine ⟨rfl, hr.2.2.2.1, fun hpos => ?_⟩
  obtain ⟨g, cap, hv, hbg, _⟩ := Kd.R_form h hpos
  injection hv with h1 h2 h3
  subst h1 h3
  refine ⟨g, rfl, ⟨h.1 g rfl, hbg⟩, fun j hj => ?_⟩
  have hi : j / d.sz < l.length := Nat.div_lt_of_lt_mul (by rw [Nat.mul_comm]; exact hj)
  have hi' : ((j / d.sz : Nat) : Int) < (l.length : Int) := Int.ofNat_lt.2 hi
  have hjd : (j / d.sz) * d.sz + j % d.sz = j := by rw [Nat.mul_comm]; exact Nat.div_add_mod j d.sz
  obtain ⟨c, hcl, hM, hcc, hfr⟩ := Kd.R_elem h z ((j / d.sz : Nat) : Int) (Int.natCast_nonneg _) hi'
  have hlt : j % d.sz < c.length := by rw [hcl]; exact Nat.mod_lt _ hp
  obtain ⟨q, hq⟩ := hint hM c[j % d.sz] (List.getElem_mem hlt)
  have h5 := hcc (j % d.sz) _ (List.getElem?_eq_getElem hlt)
  have h6 := hfr (j % d.sz)
  rw [show ((j / d.sz : Nat) : Int).toNat = j / d.sz from rfl, hjd] at h5 h6
  exact ⟨⟨q, by rw [h5, hq]⟩, h6⟩
/-- The mark behind n more. -/
def mkI : Nat → Int → Int
  | 0, k => k
  | n + 1, k => wrap64 (mkI n k + 1)
theorem mkI_add (n m : Nat) (k : Int) : mkI (n + m) k = mkI m (mkI n k) := by
  induction m with
  | zero => rfl
  | succ m ih => show wrap64 (mkI (n + m) k + 1) = wrap64 (mkI m (mkI n k) + 1); rw [ih]
theorem mkI_small (n : Nat) (k : Int) (h0 : 0 ≤ k) (h1 : k + n ≤ 9223372036854775807) : mkI n k = k + n := by
  induction n with
  | zero => simp [mkI]
  | succ n ih =>
    show wrap64 (mkI n k + 1) = _
    rw [ih (by omega)]
    unfold wrap64
    omega
end Go.Proofs.YtoeepmcaabmjkaaW.PrintWords
namespace Go.Proofs.YtoeepmcaabmjkaaW.PrintWords
open Go.RowKit
/-- k, k + 1, .. at the places of F, one behind the other. -/
def jot : List Addr → Int → World → World
  | [], _, w => w
  | a :: F, k, w => jot F (wrap64 (k + 1)) (w.setCell a (.int .i64 k))
theorem mkI_head (n : Nat) (k : Int) : mkI n (wrap64 (k + 1)) = mkI (n + 1) k := by
  rw [Nat.add_comm n 1, mkI_add]
  rfl
theorem jot_append : ∀ (F G : List Addr) (k : Int) (w : World), jot (F ++ G) k w = jot G (mkI F.length k) (jot F k w)
  | [], _, _, _ => rfl
  | a :: F, G, k, w => by
    show jot (F ++ G) (wrap64 (k + 1)) (w.setCell a (.int .i64 k)) = jot G (mkI (F.length + 1) k) (jot F (wrap64 (k + 1)) (w.setCell a (.int .i64 k)))
    rw [jot_append F G, mkI_head]
theorem jot_other : ∀ (F : List Addr) (k : Int) (w : World) (x : Addr), x ∉ F → (jot F k w).cell? x = w.cell? x
  | [], _, _, _, _ => rfl
  | a :: F, k, w, x, h => by
    have h1 : a ≠ x := fun e => h (e ▸ List.mem_cons_self)
    exact (jot_other F _ _ x (fun e => h (List.mem_cons_of_mem _ e))).trans (World.cell?_setCell_other _ _ _ _ h1)
def Holds (w : World) : List Addr → Int → Prop
  | [], _ => True
  | a :: F, k => w.cell? a = some (.int .i64 k) ∧ Holds w F (wrap64 (k + 1))
theorem Holds.move {w w' : World} : ∀ (F : List Addr) (k : Int), Holds w F k → (∀ a ∈ F, w'.cell? a = w.cell? a) → Holds w' F k
  | [], _, _, _ => trivial
  | a :: F, _, h, hm => ⟨(hm a List.mem_cons_self).trans h.1, Holds.move F _ h.2 (fun b hb => hm b (List.mem_cons_of_mem _ hb))⟩
theorem Holds.below {w w' : World} {F : List Addr} {k : Int} (h : Holds w F k) (hb : Below w.heap.size w w') : Holds w' F k := by
  refine Holds.move F k h fun a ha => ?_
  have : ∃ z, w.cell? a = some (.int .i64 z) := by
    clear hb
    induction F generalizing k with
    | nil => cases ha
    | cons b F ih =>
      rcases List.mem_cons.1 ha with rfl | ha
      · exact ⟨_, h.1⟩
      · exact ih h.2 ha
  obtain ⟨z, hz⟩ := this
  exact (pw_cell_below hb hz).trans hz.symm
theorem jot_holds : ∀ (F : List Addr) (k : Int) (w : World), F.Nodup → (∀ a ∈ F, IsI (w.cell? a)) → Holds (jot F k w) F k
  | [], _, _, _, _ => trivial
  | a :: F, k, w, hn, h => by
    have hn' := List.nodup_cons.1 hn
    have i1 : IntsOnly (fun _ => True) w (w.setCell a (.int .i64 k)) := (IntsOnly.refl _ w).set trivial (h a List.mem_cons_self) k
    refine ⟨(jot_other F _ _ a hn'.1).trans ?_, jot_holds F _ _ hn'.2 (fun b hb => i1.int _ (h b (List.mem_cons_of_mem _ hb)))⟩
    obtain ⟨z, hz⟩ := h a List.mem_cons_self
    exact World.cell?_setCell_same _ _ _ hz
/-- The places of a row's first m numbers. -/
def footR (A : Option Addr) (m : Nat) : List Addr := match A with
  | some a => (List.range m).map fun j => ⟨a.block, j, none⟩
  | none => []
theorem footR_len (g m : Nat) : (footR (some ⟨g, 0, none⟩) m).length = m := by simp [footR]
theorem footR_mem {A : Option Addr} {m : Nat} {x : Addr} (h : x ∈ footR A m) : ∃ a j, A = some a ∧ j < m ∧ x = ⟨a.block, j, none⟩ := by
  cases A with
  | none => cases h
  | some a =>
    obtain ⟨j, hj, rfl⟩ := List.mem_map.1 h
    exact ⟨a, j, rfl, List.mem_range.1 hj, rfl⟩
theorem footR_nodup (A : Option Addr) (m : Nat) : (footR A m).Nodup := by
  cases A with
  | none => exact List.nodup_nil
  | some a =>
    refine List.Pairwise.map _ (R := fun a b => a ≠ b) (fun i j hij he => hij ?_) List.nodup_range
    injection he
theorem footR_add (g n m : Nat) : footR (some ⟨g, 0, none⟩) (n + m) = footR (some ⟨g, 0, none⟩) n ++ (List.range m).map fun j => (⟨g, n + j, none⟩ : Addr) := by
  simp only [footR, List.range_add, List.map_append, List.map_map]
  rfl
theorem ShR.len {m : Nat} {w : World} {P : Nat → Prop} {A : Option Addr} {n : Nat} (h : ShR m w P A n) : (footR A (n * m)).length = n * m := by
  rcases Nat.eq_zero_or_pos n with h0 | h0
  · subst h0
    rw [Nat.zero_mul]
    cases A <;> simp [footR]
  · obtain ⟨g, rfl, _⟩ := h.2 h0
    exact footR_len g _
theorem ShR.below {m : Nat} {w w' : World} {P : Nat → Prop} {A : Option Addr} {n : Nat} (h : ShR m w P A n) (hb : Below w.heap.size w w') : ShR m w' P A n := by
  refine ⟨h.1, fun hn => ?_⟩
  obtain ⟨g, e, hp, hc⟩ := h.2 hn
  refine ⟨g, e, hp, fun j hj => ?_⟩
  obtain ⟨⟨z, hz⟩, hf⟩ := hc j hj
  exact ⟨⟨z, pw_cell_below hb hz⟩, (hb.frozen (p := ⟨g, j, none⟩) (World.block_lt_of_cell? w _ hz)).trans hf⟩
theorem ShR.foot {m : Nat} {w : World} {P : Nat → Prop} {A : Option Addr} {n : Nat} (h : ShR m w P A n) : ∀ a ∈ footR A (n * m), P a.block ∧ IsI (w.cell? a) := by
  intro x hx
  obtain ⟨a, j, rfl, hj, rfl⟩ := footR_mem hx
  obtain ⟨g, e, hp, hc⟩ := h.2 (Nat.pos_of_ne_zero (fun h0 => by subst h0; rw [Nat.zero_mul] at hj; exact absurd hj (Nat.not_lt_zero _)))
  injection e with e
  subst e
  exact ⟨hp, (hc j hj).1⟩
/-- The same, the numbers unwrapped. -/
def HoldsN (w : World) : List Addr → Int → Prop
  | [], _ => True
  | a :: F, k => w.cell? a = some (.int .i64 k) ∧ HoldsN w F (k + 1)
theorem HoldsN_append {w : World} : ∀ (F G : List Addr) (k : Int), HoldsN w (F ++ G) k ↔ HoldsN w F k ∧ HoldsN w G (k + F.length)
  | [], G, k => by
    show HoldsN w G k ↔ True ∧ HoldsN w G (k + ((0 : Nat) : Int))
    rw [show k + ((0 : Nat) : Int) = k by omega]
    exact ⟨fun h => ⟨trivial, h⟩, fun h => h.2⟩
  | a :: F, G, k => by
    show (w.cell? a = some (.int .i64 k) ∧ HoldsN w (F ++ G) (k + 1)) ↔ (w.cell? a = some (.int .i64 k) ∧ HoldsN w F (k + 1)) ∧ HoldsN w G (k + ((F.length + 1 : Nat) : Int))
    rw [HoldsN_append F G, and_assoc, show k + ((F.length + 1 : Nat) : Int) = k + 1 + (F.length : Int) by omega]
theorem HoldsN.move {w w' : World} : ∀ (F : List Addr) (k : Int), HoldsN w F k → (∀ a ∈ F, w'.cell? a = w.cell? a) → HoldsN w' F k
  | [], _, _, _ => trivial
  | a :: F, _, h, hm => ⟨(hm a List.mem_cons_self).trans h.1, HoldsN.move F _ h.2 (fun b hb => hm b (List.mem_cons_of_mem _ hb))⟩
theorem HoldsN.cast {w : World} {F : List Addr} {k k' : Int} (h : HoldsN w F k) (e : k = k') : HoldsN w F k' := e ▸ h
structure SameW (w w' : World) : Prop where mk :: (out : w = w')
theorem HoldsN.drewN {w : World} {F : List Addr} {k : Int} (h : HoldsN w F k) (n : Nat) : HoldsN (w.drewN n) F k := HoldsN.move F k h (fun _ _ => rfl)
theorem HoldsN.below {w w' : World} : ∀ {F : List Addr} {k : Int}, HoldsN w F k → Below w.heap.size w w' → HoldsN w' F k
  | [], _, _, _ => trivial
  | _ :: F, _, h, hb => ⟨pw_cell_below hb h.1, HoldsN.below (F := F) h.2 hb⟩
theorem Holds.bare {w : World} : ∀ {F : List Addr} {k : Int}, Holds w F k → 0 ≤ k → k + F.length ≤ 9223372036854775807 → HoldsN w F k
  | [], _, _, _, _ => trivial
  | a :: F, k, h, h0, h1 => by
    have h1' : k + ((F.length + 1 : Nat) : Int) ≤ 9223372036854775807 := h1
    have e : wrap64 (k + 1) = k + 1 := by unfold wrap64; omega
    refine ⟨h.1, ?_⟩
    have h2 := h.2
    rw [e] at h2
    exact Holds.bare h2 (by omega) (by omega)
/-- A list of what is there at each place. -/
theorem list_of {α : Type} {p : Nat → α → Prop} : ∀ (n : Nat), (∀ i, i < n → ∃ q, p i q) → ∃ F : List α, F.length = n ∧ ∀ (i : Nat) q, F[i]? = some q → p i q
  | 0, _ => ⟨[], rfl, fun i q h => by simp at h⟩
  | n + 1, h => by
    obtain ⟨F, hF, hp⟩ := list_of n (fun i hi => h i (by omega))
    obtain ⟨q, hq⟩ := h n (by omega)
    refine ⟨F ++ [q], by simp [hF], fun i q' hi => ?_⟩
    rcases Nat.lt_or_ge i F.length with hl | hl
    · rw [List.getElem?_append_left hl] at hi; exact hp i q' hi
    · have hi' : i = F.length := by
        have := (List.getElem?_eq_some_iff.1 hi).1
        rw [List.length_append, List.length_singleton] at this
        omega
      subst hi'
      have : q = q' := by simpa using hi
      rw [← this, hF]; exact hq
theorem at_slice {α : Type} {e : Nat} {d : Kd α} {w : World} {A : Option Addr} {n : Nat} {xs : List (List α)} (h : Kd.C (Kd.slice e d) w A n xs) (i : Int) (h0 : 0 ≤ i) (h1 : i < n) :
    ∃ ad A0 c0, A = some ad ∧ w.cell? (ad.add i.toNat) = some (.slice A0 (xs.getD i.toNat []).length c0) ∧ (xs.getD i.toNat []).length ≤ c0 ∧ d.C w A0 (xs.getD i.toNat []).length (xs.getD i.toNat []) := by
  obtain ⟨ad, c, ha, _, hK, hc⟩ := Kd.C_get h [] i h0 h1
  obtain ⟨A0, c0, rfl, l0, g0⟩ := hK
  refine ⟨ad, A0, c0, ha, ?_, l0, g0⟩
  have := hc 0 _ rfl
  rw [show (Kd.slice e d).sz = 1 from rfl, Nat.mul_one, Nat.add_zero] at this
  exact this
end Go.Proofs.YtoeepmcaabmjkaaW.PrintWords
