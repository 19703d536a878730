/- Whatever cells read as data of a type also hold a value of the printed kind of that type; for int, slice and struct types, no other condition. -/
import Derived.Test.YtoeepmcaabmjkaaWWords
import Derived.Deep.Slices
import Derived.DataReads
import Derived.WideShapes
namespace Go.Proofs.Ytoeepmcaabmjkaa.Open
open Go.RowKit Go.Proofs.YtoeepmcaabmjkaaW.PrintWords
open Go.ChangeShapes Go.WideShapes

/-- Whatever cells read as data of type t hold some value of kind d, and of that value ok. -/
def Opens (P : Program) (t : TypeId) {α : Type} (d : Kd α) (ok : α → Prop) : Prop :=
  ∀ (H : Type) (enc : TypeId × Value → H) (W : World) (base : Nat) (spare : Nat → Bool) (held : Bool) (fuel : Nat) (cs : List Value) (x : DataW H × List MemPlace),
    DataW.trod enc P W base spare held fuel t cs = some x → ∃ a : α, d.K W a cs ∧ ok a

theorem opens_int {P : Program} {t : TypeId} {k : IntKind} (ht : P.underlying t = some (.int k)) : Opens P t (Kd.int k) (fun n => (Lit.int k n).wf = true) := by
  intro H enc W base spare held fuel cs x h
  obtain ⟨n, hcs, _, hw⟩ := DataW.trod_int ht h
  subst hcs
  exact ⟨n, rfl, hw⟩

theorem cells_get {w : World} {base : Nat} {a : Addr} {n : Nat} {cs : List Value} (h : w.cells? base a n = some cs) : cs.length = n ∧ ∀ (i : Nat) (u : Value), cs[i]? = some u → w.cell? (a.add i) = some u := by
  unfold World.cells? at h
  split at h
  · have hl := mapM_some_length h
    rw [List.length_range] at hl
    refine ⟨hl, fun i u hu => ?_⟩
    have hi : i < n := by
      have := (List.getElem?_eq_some_iff.1 hu).1
      omega
    have := mapM_some_get h i i (by rw [List.getElem?_range hi])
    rw [this, hu]
  · cases h

theorem opens_slice {P : Program} {t e : TypeId} {α : Type} {d : Kd α} {ok : α → Prop} (ht : P.underlying t = some (.slice e)) (hd : Opens P e d ok) (hsz : P.cellsOf e = d.sz) :
    Opens P t (Kd.slice e d) (fun l => l.length ≤ 9223372036854775807 ∧ ∀ a ∈ l, ok a) := by
  intro H enc W base spare held fuel cs x h
  rcases Go.Deep.open_slice ht h with ⟨rfl, rfl⟩ | ⟨a, len, cap, m, n, D, Pl, rfl, hb, hl, hm, hmm, rfl, hx⟩
  · exact ⟨[], ⟨none, 0, rfl, Nat.le_refl _, rfl, Nat.zero_le _, fun h => absurd h (Nat.lt_irrefl _)⟩, Nat.zero_le _, fun a ha => by cases ha⟩
  · have hlm : len ≤ m := by rw [hmm]; split <;> omega
    have key : ∀ i : Nat, i < len → ∃ a' : α, ∃ c : List Value, c.length = d.sz ∧ d.K W a' c ∧ ok a' ∧ ∀ j u, c[j]? = some u → W.cell? (a.add (i * d.sz + j)) = some u := by
      intro i hi
      obtain ⟨cs', h1, h2⟩ := hx i (by omega)
      obtain ⟨a', hk, hok⟩ := hd H enc W base spare held n cs' _ h2
      obtain ⟨g1, g2⟩ := cells_get h1
      refine ⟨a', cs', by rw [g1, hsz], hk, hok, fun j u hu => ?_⟩
      have := g2 j u hu
      rw [Go.Deep.add_add, hsz] at this
      exact this
    have main : ∀ q : Nat, q ≤ len → ∃ l : List α, l.length = q ∧ (∀ a ∈ l, ok a) ∧ ∀ (j : Nat) (p : α), l[j]? = some p → ∃ c : List Value, c.length = d.sz ∧ d.K W p c ∧ ∀ i u, c[i]? = some u → W.cell? (a.add (j * d.sz + i)) = some u := by
      intro q
      induction q with
      | zero => exact fun _ => ⟨[], rfl, (fun a ha => by cases ha), (fun j p hj => by simp at hj)⟩
      | succ q ih =>
        intro hq
        obtain ⟨l, hll, hok, hc⟩ := ih (by omega)
        obtain ⟨a', c, g1, g2, g3, g4⟩ := key q (by omega)
        refine ⟨l ++ [a'], by simp [hll], fun b hb => ?_, fun j p hj => ?_⟩
        · rcases List.mem_append.1 hb with hb | hb
          · exact hok b hb
          · rw [List.mem_singleton.1 hb]; exact g3
        · rcases Nat.lt_or_ge j l.length with hjl | hjl
          · rw [List.getElem?_append_left hjl] at hj
            exact hc j p hj
          · have hj' : j = l.length := by
              have := (List.getElem?_eq_some_iff.1 hj).1
              rw [List.length_append, List.length_singleton] at this
              omega
            subst hj'
            have : a' = p := by simpa using hj
            subst this
            rw [hll]
            exact ⟨c, g1, g2, g4⟩
    obtain ⟨l, hll, hok, hc⟩ := main len (Nat.le_refl _)
    subst hll
    have hmx : l.length ≤ 9223372036854775807 := by
      unfold maxLen at hm
      omega
    exact ⟨l, ⟨some a, cap, rfl, hl, rfl, hmx, fun _ => ⟨a, rfl, hc⟩⟩, hmx, hok⟩

/-- The same of the fields that stand from offset o on. -/
def OpensF (P : Program) (o : Nat) (fs : List Field) {α : Type} (d : Kd α) (ok : α → Prop) : Prop :=
  ∀ (H : Type) (enc : TypeId × Value → H) (W : World) (base : Nat) (spare : Nat → Bool) (held : Bool) (n : Nat) (cs : List Value),
    cs.length = d.sz → (∀ f ∈ fs, ∃ y, DataW.trod enc P W base spare held n f.type ((cs.drop (f.offset - o)).take (P.cellsOf f.type)) = some y) → ∃ a : α, d.K W a cs ∧ ok a

theorem opensF_one {P : Program} {o : Nat} {f : Field} {α : Type} {d : Kd α} {ok : α → Prop} (hd : Opens P f.type d ok) (ho : f.offset = o) (hsz : P.cellsOf f.type = d.sz) : OpensF P o [f] d ok := by
  intro H enc W base spare held n cs hl hf
  obtain ⟨y, hy⟩ := hf f (List.mem_singleton.2 rfl)
  rw [ho, Nat.sub_self, List.drop_zero, hsz, ← hl, List.take_length] at hy
  exact hd H enc W base spare held n cs y hy

theorem opensF_cons {P : Program} {o : Nat} {f : Field} {fs : List Field} {α β : Type} {d : Kd α} {d' : Kd β} {ok : α → Prop} {ok' : β → Prop} (hd : Opens P f.type d ok) (ho : f.offset = o) (hsz : P.cellsOf f.type = d.sz)
    (hr : OpensF P (o + d.sz) fs d' ok') (hfs : ∀ g ∈ fs, o + d.sz ≤ g.offset) : OpensF P o (f :: fs) (Kd.pair d d') (fun p => ok p.1 ∧ ok' p.2) := by
  intro H enc W base spare held n cs hl hf
  have hl' : cs.length = d.sz + d'.sz := hl
  obtain ⟨y, hy⟩ := hf f List.mem_cons_self
  rw [ho, Nat.sub_self, List.drop_zero, hsz] at hy
  obtain ⟨a, hk, hok⟩ := hd H enc W base spare held n _ y hy
  obtain ⟨b, hk', hok'⟩ := hr H enc W base spare held n (cs.drop d.sz) (by rw [List.length_drop]; omega) (fun g hg => by
    obtain ⟨z, hz⟩ := hf g (List.mem_cons_of_mem _ hg)
    refine ⟨z, ?_⟩
    have := hfs g hg
    rw [List.drop_drop, show d.sz + (g.offset - (o + d.sz)) = g.offset - o by omega]
    exact hz)
  exact ⟨(a, b), ⟨_, _, (List.take_append_drop _ _).symm, hk, hk'⟩, hok, hok'⟩

theorem opens_struct {P : Program} {t : TypeId} {fs : Array Field} {α β : Type} {d : Kd α} {ok : α → Prop} (f : β → α) (g : α → β) (hfg : ∀ a, f (g a) = a) (ht : P.underlying t = some (.struct fs)) (hd : OpensF P 0 fs.toList d ok) (hsz : P.cellsOf t = d.sz) :
    Opens P t (Kd.iso d f) (fun b => ok (f b)) := by
  intro H enc W base spare held fuel cs x h
  obtain ⟨xs, n, _, _, hl, hlen, hxs⟩ := DataW.trod_struct ht h
  obtain ⟨a, hk, hok⟩ := hd H enc W base spare held n cs (by rw [hl, hsz]) (fun q hq => by
    obtain ⟨i, hi⟩ := List.mem_iff_getElem?.1 hq
    have hi' : fs[i]? = some q := by rw [← hi, Array.getElem?_toList]
    have hlt : i < xs.length := by
      rw [hlen]
      exact (Array.getElem?_eq_some_iff.1 hi').1
    refine ⟨xs[i], ?_⟩
    have := hxs i q hi'
    rw [List.getElem?_eq_getElem hlt] at this
    simpa using this)
  exact ⟨g a, by show d.K W (f (g a)) cs; rw [hfg]; exact hk, by show ok (f (g a)); rw [hfg]; exact hok⟩

theorem opens_imp {P : Program} {t : TypeId} {α : Type} {d : Kd α} {ok ok' : α → Prop} (h : Opens P t d ok) (hi : ∀ a, ok a → ok' a) : Opens P t d ok' := by
  intro H enc W base spare held fuel cs x hx
  obtain ⟨a, hk, hok⟩ := h H enc W base spare held fuel cs x hx
  exact ⟨a, hk, hi a hok⟩

/-- An argument that is a slice. -/
theorem slice_arg {P : Program} {t e : TypeId} {α : Type} {d : Kd α} {ok : List α → Prop} (h : Opens P t (Kd.slice e d) ok) {H : Type} {enc : TypeId × Value → H} {W : World} {base : Nat} {spare : Nat → Bool} {held : Bool} {A : Option Addr} {n c : Nat} {x : DataW H} {ps : List MemPlace}
    (hx : DataW.Trod enc P W base spare held t (.slice A n c) x ps) : ∃ l : List α, n = l.length ∧ l.length ≤ c ∧ Kd.C d W A l.length l ∧ ok l := by
  obtain ⟨fuel, hf⟩ := hx
  obtain ⟨l, ⟨A', c', hcs, hl, hC⟩, hok⟩ := h H enc W base spare held fuel _ _ hf
  have hcs' : [Value.slice A n c] = [Value.slice A' l.length c'] := hcs
  injection hcs' with hcs' _
  injection hcs' with h1 h2 h3
  subst h1 h2 h3
  exact ⟨l, rfl, hl, hC, hok⟩

/-- An argument that is a struct. -/
theorem struct_arg {P : Program} {t : TypeId} {α : Type} {d : Kd α} {ok : α → Prop} (h : Opens P t d ok) {H : Type} {enc : TypeId × Value → H} {W : World} {base : Nat} {spare : Nat → Bool} {held : Bool} {cs : Array Value} {x : DataW H} {ps : List MemPlace}
    (hx : DataW.Trod enc P W base spare held t (.agg cs) x ps) : ∃ a : α, d.K W a cs.toList ∧ ok a := by
  obtain ⟨fuel, hf⟩ := hx
  exact h H enc W base spare held fuel _ _ hf
end Go.Proofs.Ytoeepmcaabmjkaa.Open
