/- Words for the laws' marking functions: whole numbers are written over whole numbers, in known blocks alone. -/
import Derived.Test.YtoeepmcaabmjkaaWMore
import Derived.Lib.SliceRun
namespace Go.Proofs.YtoeepmcaabmjkaaW.PrintWords
open Go.RowKit

def IsI (v : Option Value) : Prop := ∃ z : Int, v = some (.int .i64 z)

/-- Whole numbers are written over whole numbers, in blocks of P alone. -/
structure IntsOnly (P : Nat → Prop) (w w' : World) : Prop where
  os : w'.os = w.os
  tape : w'.tape = w.tape
  output : w'.output = w.output
  size : w'.heap.size = w.heap.size
  block : ∀ k, ¬ P k → w'.heap[k]? = w.heap[k]?
  int : ∀ a, IsI (w.cell? a) → IsI (w'.cell? a)
  other : ∀ a v, w.cell? a = some v → (∀ z, v ≠ .int .i64 z) → w'.cell? a = some v
  frozen : ∀ a, w'.frozen? a = w.frozen? a

theorem IntsOnly.refl (P : Nat → Prop) (w : World) : IntsOnly P w w := ⟨rfl, rfl, rfl, rfl, fun _ _ => rfl, fun _ h => h, fun _ _ h _ => h, fun _ => rfl⟩
theorem IntsOnly.trans {P : Nat → Prop} {a b c : World} (h : IntsOnly P a b) (k : IntsOnly P b c) : IntsOnly P a c :=
  ⟨k.os.trans h.os, k.tape.trans h.tape, k.output.trans h.output, k.size.trans h.size, fun i hi => (k.block i hi).trans (h.block i hi), fun x hx => k.int x (h.int x hx), fun x v hx hv => k.other x v (h.other x v hx hv) hv, fun x => (k.frozen x).trans (h.frozen x)⟩
theorem IntsOnly.drewN {P : Nat → Prop} {a b : World} (h : IntsOnly P a b) (m : Nat) : IntsOnly P a (b.drewN m) := ⟨h.os, h.tape, h.output, h.size, h.block, h.int, h.other, h.frozen⟩
theorem IntsOnly.drew {P : Nat → Prop} {a b : World} (h : IntsOnly P a b) : IntsOnly P a b.drew := ⟨h.os, h.tape, h.output, h.size, h.block, h.int, h.other, h.frozen⟩
theorem IntsOnly.mono {P Q : Nat → Prop} {a b : World} (h : IntsOnly P a b) (hq : ∀ k, P k → Q k) : IntsOnly Q a b :=
  ⟨h.os, h.tape, h.output, h.size, fun k hk => h.block k (fun hp => hk (hq k hp)), h.int, h.other, h.frozen⟩
theorem IntsOnly.set {P : Nat → Prop} {a b : World} (h : IntsOnly P a b) {p : Addr} (hp : P p.block) (hc : IsI (b.cell? p)) (z : Int) : IntsOnly P a (b.setCell p (.int .i64 z)) := by
  refine h.trans ⟨rfl, rfl, rfl, by simp [World.setCell], fun k hk => ?_, fun x hx => ?_, fun x v hx hv => ?_, fun x => World.frozen?_setCell _ _ _ _⟩
  · exact Below.heap_setCell b p _ k (fun e => hk (e ▸ hp))
  · by_cases e : p = x
    · subst e
      obtain ⟨z0, hz⟩ := hx
      exact ⟨z, World.cell?_setCell_same _ _ _ hz⟩
    · rw [World.cell?_setCell_other _ _ _ _ e]
      exact hx
  · by_cases e : p = x
    · subst e
      obtain ⟨z0, hz⟩ := hc
      rw [hz] at hx
      injection hx with hx
      exact absurd hx.symm (hv z0)
    · rw [World.cell?_setCell_other _ _ _ _ e]
      exact hx
theorem IntsOnly.put {P : Nat → Prop} {w b : World} {g j : Nat} (h : IntsOnly P w b) (hp : P g) (hc : IsI (w.cell? ⟨g, j, none⟩)) (z : Int) : IntsOnly P w (b.setCell ⟨g, j, none⟩ (.int .i64 z)) := h.set hp (h.int _ hc) z
theorem IntsOnly.below {P : Nat → Prop} {w0 a b : World} (h : IntsOnly P a b) (hB : Below w0.heap.size w0 a) (hP : ∀ k, P k → w0.heap.size ≤ k) : Below w0.heap.size w0 b :=
  ⟨h.os.trans hB.os, h.tape.trans hB.tape, h.output.trans hB.output, by rw [h.size]; exact hB.size, fun k hk => (h.block k (fun hp => by have := hP k hp; omega)).trans (hB.block k hk)⟩
theorem IntsOnly.kept {P : Nat → Prop} {a b : World} (h : IntsOnly P a b) : Kept a b P := ⟨by rw [h.size]; exact Nat.le_refl _, fun k _ hk => h.block k hk⟩

/-- A row of n elements of m whole numbers each, at the head of a block of P. -/
def ShR (m : Nat) (w : World) (P : Nat → Prop) (A : Option Addr) (n : Nat) : Prop :=
  n ≤ 9223372036854775807 ∧ (0 < n → ∃ g, A = some ⟨g, 0, none⟩ ∧ P g ∧ ∀ j, j < n * m → IsI (w.cell? ⟨g, j, none⟩) ∧ w.frozen? ⟨g, j, none⟩ = false)
theorem ShR.step {m : Nat} {w w' : World} {P Q : Nat → Prop} {A : Option Addr} {n : Nat} (h : ShR m w P A n) (hi : IntsOnly Q w w') : ShR m w' P A n :=
  ⟨h.1, fun hn => by
    obtain ⟨g, e, hp, hc⟩ := h.2 hn
    exact ⟨g, e, hp, fun j hj => ⟨hi.int _ (hc j hj).1, by rw [hi.frozen]; exact (hc j hj).2⟩⟩⟩

theorem ShR.mono {m : Nat} {w : World} {P Q : Nat → Prop} {A : Option Addr} {n : Nat} (h : ShR m w P A n) (hq : ∀ k, P k → Q k) : ShR m w Q A n :=
  ⟨h.1, fun hn => by
    obtain ⟨g, e, hp, hc⟩ := h.2 hn
    exact ⟨g, e, hq g hp, hc⟩⟩
theorem ShR_of_R {α : Type} {d : Kd α} {e : Nat} {w : World} {base n c : Nat} {P : Nat → Prop} {A : Option Addr} {l : List α} (h : d.R e w base P (.slice A n c) l) (hp : 0 < d.sz) (z : α)
    (hint : ∀ {w : World} {base : Nat} {ok : Nat → Prop} {x : α} {cs : List Value}, d.M w base ok x cs → ∀ u ∈ cs, ∃ z : Int, u = .int .i64 z) : n = l.length ∧ ShR d.sz w (fun k_ => P k_ ∧ base ≤ k_) A l.length := by
  have hr := Kd.R_reads' h
  have hn : n = l.length := hr.1
  subst hn
  refine ⟨rfl, hr.2.2.2.1, fun hpos => ?_⟩
  obtain ⟨g, cap, hv, hbg, _⟩ := Kd.R_form h hpos
  injection hv with h1 h2 h3
  subst h1 h3
  refine ⟨g, rfl, ⟨h.1 g rfl, hbg⟩, fun j hj => ?_⟩
  have hi : j / d.sz < l.length := Nat.div_lt_of_lt_mul (by rw [Nat.mul_comm]; exact hj)
  have hi' : ((j / d.sz : Nat) : Int) < (l.length : Int) := Int.ofNat_lt.2 hi
  have hjd : (j / d.sz) * d.sz + j % d.sz = j := by rw [Nat.mul_comm]; exact Nat.div_add_mod j d.sz
  obtain ⟨c, hcl, hM, hcc, hfr⟩ := Kd.R_elem h z ((j / d.sz : Nat) : Int) (Int.natCast_nonneg _) hi'
  have hlt : j % d.sz < c.length := by rw [hcl]; exact Nat.mod_lt _ hp
  obtain ⟨q, hq⟩ := hint hM c[j % d.sz] (List.getElem_mem hlt)
  have h5 := hcc (j % d.sz) _ (List.getElem?_eq_getElem hlt)
  have h6 := hfr (j % d.sz)
  rw [show ((j / d.sz : Nat) : Int).toNat = j / d.sz from rfl, hjd] at h5 h6
  exact ⟨⟨q, by rw [h5, hq]⟩, h6⟩

/-- The mark behind n more. -/
def mkI : Nat → Int → Int
  | 0, k => k
  | n + 1, k => wrap64 (mkI n k + 1)
theorem mkI_add (n m : Nat) (k : Int) : mkI (n + m) k = mkI m (mkI n k) := by
  induction m with
  | zero => rfl
  | succ m ih => show wrap64 (mkI (n + m) k + 1) = wrap64 (mkI m (mkI n k) + 1); rw [ih]
theorem mkI_small (n : Nat) (k : Int) (h0 : 0 ≤ k) (h1 : k + n ≤ 9223372036854775807) : mkI n k = k + n := by
  induction n with
  | zero => simp [mkI]
  | succ n ih =>
    show wrap64 (mkI n k + 1) = _
    rw [ih (by omega)]
    unfold wrap64
    omega
end Go.Proofs.YtoeepmcaabmjkaaW.PrintWords
