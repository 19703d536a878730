/- Entries whose two rows lie apart: a kind, and what the marks find there. No condition. -/
import Derived.Test.YtoeepmcaabmjkaaFootW
import Derived.Test.YtoeepmcaabmjkaaQLTx8
namespace Go.Proofs.Ytoeepmcaabmjkaa.QLT
open Go.RowKit Go.Proofs.YtoeepmcaabmjkaaW.PrintWords Go.Proofs.YtoeepmcaabmjkaaW.PrintLast Go.Proofs.YtoeepmcaabmjkaaW.PrintMore
def k84a : Kd S84 where
  sz := k84.sz
  E := k84.E
  K := k84.K
  M := fun w base ok x cs => ∃ v3 v4 P3 P4, (∀ k : Nat, P3 k → ok k) ∧ (∀ k : Nat, P4 k → ok k) ∧ (∀ k, P3 k → ¬ P4 k) ∧ cs = [.int .i64 x.f0, .int .i64 x.f1, .int .i64 x.f2, v3, v4, .int .i64 x.f5] ∧ k115.R 115 w base P3 v3 x.f3 ∧ k115.R 115 w base P4 v4 x.f4
  K_len := fun h => k84.K_len h
  K_one := fun h => k84.K_one h
  K_below := fun hb h => k84.K_below hb h
  K_of_M := fun ⟨_, _, _, _, h3, h4, _, e, g3, g4⟩ => by subst e; exact k84.K_of_M (k84_mkM _ _ _ _ (Kd.R_mono g3 h3) (Kd.R_mono g4 h4))
  M_mono := fun hok ⟨v3, v4, P3, P4, h3, h4, ha, e, g3, g4⟩ => ⟨v3, v4, P3, P4, fun k hk => hok k (h3 k hk), fun k hk => hok k (h4 k hk), ha, e, g3, g4⟩
  M_bound := fun ⟨v3, v4, P3, P4, h3, h4, ha, e, g3, g4⟩ => ⟨v3, v4, _, _, fun k hk => ⟨h3 k hk.1, hk.2.1, hk.2.2.1, by obtain ⟨_, _, _, q, hq, hc⟩ := hk; exact ⟨q, by revert hq; exact (by decide : ∀ q, q ∈ 115 :: k115.E → q ∈ k84.E) q, hc⟩⟩, fun k hk => ⟨h4 k hk.1, hk.2.1, hk.2.2.1, by obtain ⟨_, _, _, q, hq, hc⟩ := hk; exact ⟨q, by revert hq; exact (by decide : ∀ q, q ∈ 115 :: k115.E → q ∈ k84.E) q, hc⟩⟩, fun k hk h2 => ha k hk.1 h2.1, e, Kd.R_bound g3, Kd.R_bound g4⟩
  M_move := fun hm ⟨v3, v4, P3, P4, h3, h4, ha, e, g3, g4⟩ => ⟨v3, v4, P3, P4, h3, h4, ha, e, Kd.R_move g3 (fun k hk => hm k (h3 k hk)), Kd.R_move g4 (fun k hk => hm k (h4 k hk))⟩
  M_lower := fun hb ⟨v3, v4, P3, P4, h3, h4, ha, e, g3, g4⟩ => ⟨v3, v4, P3, P4, h3, h4, ha, e, Kd.R_lower g3 hb, Kd.R_lower g4 hb⟩
theorem k84a_mkM (w : World) (base : Nat) (ok : Nat → Prop) (x : S84) {v3 v4 : Value} (g3 : k115.R 115 w base ok v3 x.f3) (g4 : k115.R 115 w base ok v4 x.f4) (ha : ∀ k, v3.ownBlock = some k → some k ≠ v4.ownBlock) : k84a.M w base ok x [.int .i64 x.f0, .int .i64 x.f1, .int .i64 x.f2, v3, v4, .int .i64 x.f5] :=
  ⟨v3, v4, _, _, fun k hk => g3.1 k hk.symm, fun k hk => g4.1 k hk.symm, fun k h3 h4 => ha k h3.symm h4, rfl, Kd.R_tight rfl g3, Kd.R_tight rfl g4⟩
theorem k84a_M {w : World} {base : Nat} {ok : Nat → Prop} {x : S84} {cs : List Value} (h : k84a.M w base ok x cs) : k84.M w base ok x cs := by
  obtain ⟨v3, v4, P3, P4, h3, h4, _, rfl, g3, g4⟩ := h
  exact k84_mkM _ _ _ _ (Kd.R_mono g3 h3) (Kd.R_mono g4 h4)
theorem k84a_R {w : World} {base : Nat} {ok : Nat → Prop} {v : Value} {xs : List S84} (h : k84a.R 84 w base ok v xs) : k84.R 84 w base ok v xs :=
  ⟨h.1, OwnRow.imp_ h.2 (fun _ _ hp => k84a_M hp)⟩
theorem k84a_S {w : World} {base : Nat} {ok : Nat → Prop} {v : Value} {xs : List S84} (h : Kd.S k84a 84 w base ok v xs) : Kd.S k84 84 w base ok v xs := by
  obtain ⟨f, h⟩ := h
  exact ⟨f, h.1, OwnRow.imp_ h.2 (fun _ _ hp => k84a_M hp)⟩
theorem foot_blk {α : Type} {d : Kd α} {e : Nat} {w : World} {base n c m : Nat} {P : Nat → Prop} {A : Option Addr} {l : List α} (h : d.R e w base P (.slice A n c) l) : ∀ a ∈ footR A m, P a.block := by
  intro a ha
  obtain ⟨ad, j, rfl, _, rfl⟩ := footR_mem ha
  exact h.1 ad.block (by simp [Value.ownBlock])
theorem ft84_nodup (own : Addr → Nat) (g : Nat) : ∀ (F : List F84) (i : Nat), (∀ (j : Nat) q, F[j]? = some q → (one84 g (i + j) q).Nodup ∧ ∀ a ∈ one84 g (i + j) q, own a = i + j) → (ft84 g i F).Nodup ∧ ∀ a ∈ ft84 g i F, i ≤ own a
  | [], _, _ => ⟨List.nodup_nil, fun a ha => by cases ha⟩
  | q :: F, i, h => by
    obtain ⟨h1, h2⟩ := h 0 q rfl
    rw [Nat.add_zero] at h1 h2
    obtain ⟨h3, h4⟩ := ft84_nodup own g F (i + 1) (fun j q hj => by have := h (j + 1) q (by simpa using hj); rw [show i + 1 + j = i + (j + 1) by omega]; exact this)
    show (one84 g i q ++ ft84 g (i + 1) F).Nodup ∧ ∀ a ∈ one84 g i q ++ ft84 g (i + 1) F, i ≤ own a
    refine ⟨List.nodup_append.2 ⟨h1, h3, fun a ha b hb hab => ?_⟩, fun a ha => ?_⟩
    · have e1 := h2 a ha
      have e2 := h4 b hb
      rw [← hab] at e2
      omega
    · rcases List.mem_append.1 ha with ha | ha
      · exact Nat.le_of_eq (h2 a ha).symm
      · have := h4 a ha
        omega
/-- What is there, place by place; no place twice. -/
theorem ok84a {w : World} {base n c : Nat} {P : Nat → Prop} {A : Option Addr} {l : List S84} (h : Kd.S k84a 84 w base P (.slice A n c) l) :
    n = l.length ∧ ∃ F : List F84, F.length = l.length ∧ F84.Ok w (fun k_ => P k_ ∧ base ≤ k_) A F ∧ (foot84 A F).length = cnt84 l ∧ (foot84 A F).Nodup := by
  have hr := Kd.S_reads' h
  have hn : n = l.length := hr.1
  subst hn
  refine ⟨rfl, ?_⟩
  rcases Nat.eq_zero_or_pos l.length with h0 | hpos
  · refine ⟨[], h0.symm, ⟨Nat.zero_le _, fun hp => absurd hp (Nat.lt_irrefl 0)⟩, ?_⟩
    rw [List.length_eq_zero_iff] at h0
    subst h0
    cases A <;> exact ⟨rfl, List.nodup_nil⟩
  obtain ⟨f, h⟩ := h
  have hpos' : 0 < l.zipIdx.length := by rw [List.length_zipIdx]; exact hpos
  obtain ⟨g, cap, hv, hbg, _⟩ := Kd.R_form h hpos'
  injection hv with h1 h2 h3
  subst h1 h3
  have hex : ∀ i : Nat, i < l.length → ∃ q : F84, (IsI (w.cell? ⟨g, i * 6, none⟩) ∧ IsI (w.cell? ⟨g, i * 6 + 1, none⟩) ∧ IsI (w.cell? ⟨g, i * 6 + 2, none⟩) ∧ (∃ c : Nat, w.cell? ⟨g, i * 6 + 3, none⟩ = some (.slice q.A3 q.n3 c) ∧ ShR 2 w (fun k_ => P k_ ∧ base ≤ k_) q.A3 q.n3) ∧ (∃ c : Nat, w.cell? ⟨g, i * 6 + 4, none⟩ = some (.slice q.A4 q.n4 c) ∧ ShR 2 w (fun k_ => P k_ ∧ base ≤ k_) q.A4 q.n4) ∧ IsI (w.cell? ⟨g, i * 6 + 5, none⟩)) ∧ (∀ x, l[i]? = some x → ∀ g i, (one84 g i q).length = 4 + x.f3.length * 2 + x.f4.length * 2) ∧ (one84 g i q).Nodup ∧ ∀ a ∈ one84 g i q, (if a.block = g then a.off / 6 else f a.block) = i := by
    intro i hi
    obtain ⟨x, hx⟩ : ∃ x, l[i]? = some x := ⟨_, List.getElem?_eq_getElem hi⟩
    obtain ⟨c, hcl, hM, hcc, _⟩ := Kd.R_elem h (z84, 0) (i : Int) (by omega) (by omega)
    have ex : l.zipIdx.getD (i : Int).toNat (z84, 0) = (x, i) := by rw [List.getD_eq_getElem?_getD, show (i : Int).toNat = i from rfl, Kd.zip_at hx]; rfl
    rw [ex] at hM
    have hc : ∀ j u, c[j]? = some u → w.cell? ⟨g, i * 6 + j, none⟩ = some u := hcc
    obtain ⟨v3, v4, P3, P4, hp3, hp4, hap, rfl, g3, g4⟩ := hM
    obtain ⟨A3, c3, rfl⟩ := Kd.R_slice g3
    obtain ⟨A4, c4, rfl⟩ := Kd.R_slice g4
    have hint : ∀ {w : World} {base : Nat} {ok : Nat → Prop} {x : S115} {cs : List Value}, k115.M w base ok x cs → ∀ u ∈ cs, ∃ z : Int, u = .int .i64 z := by
      intro w base ok x cs h u hu
      rw [k115_openM h] at hu
      simp only [List.mem_cons, List.not_mem_nil, or_false] at hu
      rcases hu with rfl | rfl <;> exact ⟨_, rfl⟩
    have s3 := (ShR_of_R g3 (by decide) z115 hint).2
    have s4 := (ShR_of_R g4 (by decide) z115 hint).2
    have e3 : (footR A3 (x.f3.length * 2)).length = x.f3.length * 2 := s3.len
    have e4 : (footR A4 (x.f4.length * 2)).length = x.f4.length * 2 := s4.len
    have b3 : ∀ a ∈ footR A3 (x.f3.length * 2), P3 a.block := foot_blk g3
    have b4 : ∀ a ∈ footR A4 (x.f4.length * 2), P4 a.block := foot_blk g4
    refine ⟨⟨A3, x.f3.length, A4, x.f4.length⟩, ⟨⟨_, hc 0 _ rfl⟩, ⟨_, hc 1 _ rfl⟩, ⟨_, hc 2 _ rfl⟩, ⟨c3, hc 3 _ rfl, s3.mono (fun k hk => ⟨(hp3 k hk.1).1.1, hk.2⟩)⟩, ⟨c4, hc 4 _ rfl, s4.mono (fun k hk => ⟨(hp4 k hk.1).1.1, hk.2⟩)⟩, ⟨_, hc 5 _ rfl⟩⟩, fun x' hx' g i => ?_, ?_, ?_⟩
    · rw [hx] at hx'
      cases hx'
      simp only [one84, List.length_append, List.length_cons, List.length_nil, e3, e4]
      omega
    · show ([(⟨g, i * 6, none⟩ : Addr), ⟨g, i * 6 + 1, none⟩, ⟨g, i * 6 + 2, none⟩] ++ (footR A3 (x.f3.length * 2) ++ (footR A4 (x.f4.length * 2) ++ [(⟨g, i * 6 + 5, none⟩ : Addr)]))).Nodup
      have n3 : ∀ a ∈ footR A3 (x.f3.length * 2), a.block ≠ g := fun a ha => (hp3 _ (b3 a ha)).1.2
      have n4 : ∀ a ∈ footR A4 (x.f4.length * 2), a.block ≠ g := fun a ha => (hp4 _ (b4 a ha)).1.2
      refine List.nodup_append.2 ⟨by simp, List.nodup_append.2 ⟨footR_nodup _ _, List.nodup_append.2 ⟨footR_nodup _ _, by simp, fun a ha b hb hab => ?_⟩, fun a ha b hb hab => ?_⟩, fun a ha b hb hab => ?_⟩
      · rw [List.mem_singleton] at hb
        subst hb
        subst hab
        exact n4 _ ha rfl
      · subst hab
        rcases List.mem_append.1 hb with hb | hb
        · exact hap _ (b3 _ ha) (b4 _ hb)
        · rw [List.mem_singleton] at hb
          subst hb
          exact n3 _ ha rfl
      · subst hab
        have ha' : a.block = g ∧ a.off ≤ i * 6 + 2 := by
          simp only [List.mem_cons, List.not_mem_nil, or_false] at ha
          rcases ha with rfl | rfl | rfl <;> exact ⟨rfl, by simp⟩
        rcases List.mem_append.1 hb with hb | hb
        · exact n3 _ hb ha'.1
        · rcases List.mem_append.1 hb with hb | hb
          · exact n4 _ hb ha'.1
          · rw [List.mem_singleton] at hb
            subst hb
            have := ha'.2
            simp at this
    · intro a ha
      simp only [one84, List.mem_append, List.mem_cons, List.not_mem_nil, or_false] at ha
      rcases ha with (rfl | rfl | rfl) | ha | ha | rfl
      · simp
      · simp; omega
      · simp; omega
      · rw [if_neg (hp3 _ (b3 a ha)).1.2]; exact (hp3 _ (b3 a ha)).2
      · rw [if_neg (hp4 _ (b4 a ha)).1.2]; exact (hp4 _ (b4 a ha)).2
      · simp; omega
  obtain ⟨F, hFl, hF⟩ := list_of _ hex
  refine ⟨F, hFl, ⟨by rw [hFl]; exact hr.2.2.2.1, fun _ => ⟨g, rfl, ⟨h.1 g rfl, hbg⟩, fun j => ?_, fun i q hq => (hF i q hq).1⟩⟩, ft84_len g F l 0 hFl (fun j q x h1 h2 => (hF j q h1).2.1 x h2), ?_⟩
  · obtain ⟨_, _, _, _, hfr⟩ := Kd.R_elem h (z84, 0) 0 (Int.le_refl _) (by omega)
    have := hfr j
    simpa using this
  · exact (ft84_nodup (fun a => if a.block = g then a.off / 6 else f a.block) g F 0 (fun j q hj => by
      have := (hF j q hj).2.2
      rw [Nat.zero_add]
      exact this)).1
end Go.Proofs.Ytoeepmcaabmjkaa.QLT
