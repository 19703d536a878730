/- Plain lemmas: what the reader of a drawing picks. -/
import Derived.Laws.BitsAllLaws
import Derived.Test.YtedbgdnhkcllaaaPDeed
import Derived.Test.YtedbgdnhkcllaaaU0
namespace Go.Proofs.Ytedbgdnhkcllaaa.PDraw
open Go.RowKit Go.Proofs.Ytedbgdnhkcllaaa.QRB Go.Proofs.YtedbgdnhkcllaaaW.PrintWords Go.Proofs.YtedbgdnhkcllaaaW.PrintLast Go.Proofs.Ytedbgdnhkcllaaa.PDeed

theorem i64_xor (a b : Int) (h1 : 0 ≤ a) (h2 : a < 9223372036854775808) (h3 : 0 ≤ b) (h4 : b < 9223372036854775808) : 0 ≤ Go.bits .xor .i64 a b := by
  obtain ⟨A, rfl⟩ := Int.eq_ofNat_of_zero_le h1
  obtain ⟨B, rfl⟩ := Int.eq_ofNat_of_zero_le h3
  have hx : A ^^^ B < 2 ^ 63 := Nat.xor_lt_two_pow (by omega) (by omega)
  show (0 : Int) ≤ IntKind.i64.wrap ((BitVec.ofInt 64 (A : Int) ^^^ BitVec.ofInt 64 (B : Int)).toNat : Int)
  rw [BitVec.toNat_xor, ofInt_u64 A (by omega), ofInt_u64 B (by omega)]
  simp [IntKind.wrap, IntKind.bits, IntKind.signed]
  omega
theorem tmod_in {a n : Int} (ha : 0 ≤ a) (hn : 1 ≤ n) : 0 ≤ Int.tmod a n ∧ Int.tmod a n < n :=
  ⟨Int.tmod_nonneg n ha, Int.tmod_lt_of_pos a (by omega)⟩
def Bytes (b : List Int) : Prop := ∀ x ∈ b, 0 ≤ x ∧ x ≤ 255
theorem rd_byte {b : List Int} (hb : Bytes b) (i : Int) : 0 ≤ rd b i ∧ rd b i ≤ 255 := by
  unfold rd
  rw [List.getD_eq_getElem?_getD]
  cases h : b[i.toNat]? with
  | none => simp
  | some x => exact hb x (List.mem_of_getElem? h)
theorem pick_ev (b : List Int) (hb : Bytes b) (hl : b.length ≤ 2000) (n p : Int) (hp : 0 ≤ p) (hp' : p ≤ 1000000) (hn : n ≤ 1000000000) :
    ∃ r, Ev (fun k => spec_l6Rd_pick.f k b p n) (r, p + 1) ∧ 0 ≤ r ∧ (1 ≤ n → r < n) ∧ (n < 1 → r = 0) := by
  have e1 : wrap64 (p + 1) = p + 1 := w64 (by omega) (by omega)
  have e0 : wrap64 (p + 1 - 1) = p := by rw [show p + 1 - 1 = p by omega]; exact w64 (by omega) (by omega)
  by_cases h1 : n < 1
  · refine ⟨0, ?_, by omega, by omega, fun _ => rfl⟩
    unfold spec_l6Rd_pick.f
    refine ev_pos h1 (Ev.step (fun k => ?_) (Ev.now _))
    rw [spec_l6Rd_pick.j0, if_pos rfl, e1]
  · by_cases h2 : b.length = 0
    · refine ⟨0, ?_, by omega, by omega, fun _ => rfl⟩
      unfold spec_l6Rd_pick.f
      refine ev_neg h1 (Ev.step (fun k => ?_) (Ev.now _))
      rw [spec_l6Rd_pick.j0, if_pos (by simp [h2]), e1]
    · have hne : ((b.length : Int) == 0) = false := by simp; intro h; exact h2 (by simp [h])
      by_cases h3 : p < (b.length : Int)
      · have hr := rd_byte hb p
        have hw : wrap64 (rd b p) = rd b p := w64 (by omega) (by omega)
        refine ⟨Int.tmod (rd b p) n, ?_, (tmod_in hr.1 (by omega)).1, fun _ => (tmod_in hr.1 (by omega)).2, by omega⟩
        unfold spec_l6Rd_pick.f
        refine ev_neg h1 (Ev.step (fun k => ?_) (Ev.now _))
        rw [spec_l6Rd_pick.j0, hne, if_neg Bool.false_ne_true, e1, e0, if_pos h3, if_pos hp, if_neg (by omega), hw]
      · have hL : 1 ≤ (b.length : Int) := by omega
        have m1 := tmod_in (a := p) hp hL
        have e7 : wrap64 (p * 7) = p * 7 := w64 (by omega) (by omega)
        have e73 : wrap64 (p * 7 + 3) = p * 7 + 3 := w64 (by omega) (by omega)
        have m2 := tmod_in (a := p * 7 + 3) (by omega) hL
        have r1 := rd_byte hb (Int.tmod p (b.length : Int))
        have r2 := rd_byte hb (Int.tmod (p * 7 + 3) (b.length : Int))
        generalize hA : rd b (Int.tmod p (b.length : Int)) = A at r1
        generalize hB : rd b (Int.tmod (p * 7 + 3) (b.length : Int)) = B at r2
        have q1 : 0 ≤ Int.tdiv p (b.length : Int) := Int.tdiv_nonneg hp (by omega)
        have q2 : Int.tdiv p (b.length : Int) ≤ p := by
          rw [Int.tdiv_eq_ediv_of_nonneg hp]
          exact Int.ediv_le_self _ hp
        generalize hQ : Int.tdiv p (b.length : Int) = Q at q1 q2
        have eX : wrap64 ((wrap64 ((wrap64 ((wrap64 ((wrap64 A) * 131)) + (wrap64 ((wrap64 B) * 1117)))) + (wrap64 (p * 29)))) + (wrap64 ((wrap64 Q) * 53))) = A * 131 + B * 1117 + p * 29 + Q * 53 := by
          rw [w64 (i := A) (by omega) (by omega), w64 (i := B) (by omega) (by omega), w64 (i := Q) (by omega) (by omega), w64 (i := A * 131) (by omega) (by omega),
            w64 (i := B * 1117) (by omega) (by omega), w64 (i := A * 131 + B * 1117) (by omega) (by omega), w64 (i := p * 29) (by omega) (by omega), w64 (i := A * 131 + B * 1117 + p * 29) (by omega) (by omega),
            w64 (i := Q * 53) (by omega) (by omega), w64 (by omega) (by omega)]
        have t1 : 0 ≤ Int.tdiv (A * 131 + B * 1117 + p * 29 + Q * 53) 64 := Int.tdiv_nonneg (by omega) (by omega)
        have t2 : Int.tdiv (A * 131 + B * 1117 + p * 29 + Q * 53) 64 ≤ A * 131 + B * 1117 + p * 29 + Q * 53 := by
          rw [Int.tdiv_eq_ediv_of_nonneg (by omega)]
          exact Int.ediv_le_self _ (by omega)
        generalize hT : Int.tdiv (A * 131 + B * 1117 + p * 29 + Q * 53) 64 = T at t1 t2
        have hx := i64_xor (A * 131 + B * 1117 + p * 29 + Q * 53) T (by omega) (by omega) t1 (by omega)
        generalize hX : Go.bits .xor .i64 (A * 131 + B * 1117 + p * 29 + Q * 53) T = X at hx
        refine ⟨Int.tmod X n, ?_, (tmod_in hx (by omega)).1, fun _ => (tmod_in hx (by omega)).2, by omega⟩
        unfold spec_l6Rd_pick.f
        refine ev_neg h1 (Ev.step (fun k => ?_) (Ev.now _))
        rw [spec_l6Rd_pick.j0, hne, if_neg Bool.false_ne_true, e1, e0, if_neg h3, if_neg (by omega), if_pos m1.1, if_pos m1.2, e7, e73, if_pos m2.1, if_pos m2.2, if_neg (by omega), hA, hB, hQ, eX, hT,
          w64 (i := T) (by omega) (by omega), hX]

theorem open_ev (l : List Int) (hl : ∀ x ∈ l, (Lit.int .u8 x).wf = true) : ∃ b, spec_l6Open.f l = some (b, 0) ∧ Bytes b ∧ b.length ≤ 2000 := by
  have hb : Bytes l := by
    intro x hx
    have := hl x hx
    simp [Lit.wf, IntKind.min, IntKind.max, IntKind.bits, IntKind.signed] at this
    omega
  unfold spec_l6Open.f
  by_cases h : (l.length : Int) > 2000
  · rw [if_pos h, if_pos (by omega)]
    exact ⟨_, rfl, fun x hx => hb x (List.mem_of_mem_take hx), by rw [List.length_take]; omega⟩
  · rw [if_neg h]
    exact ⟨l, rfl, hb, by omega⟩
/-- A drawn deed: whatever it is, drawing it takes at most three picks. -/
theorem l71Deed_ev (b : List Int) (hb : Bytes b) (hl : b.length ≤ 2000) (n p : Int) (hp : 0 ≤ p) (hp' : p ≤ 100000) (hn : n ≤ 1000000000) :
    ∃ r : Int × Int × Int × Int, Ev (fun k => spec_l71Deed.f k b p n) r ∧ p ≤ r.2.2.2 ∧ r.2.2.2 ≤ p + 3 := by
  unfold spec_l71Deed.f
  by_cases h : n = 0
  · obtain ⟨a, ea, -⟩ := pick_ev b hb hl 3 p hp (by omega) (by omega)
    obtain ⟨c, ec, -⟩ := pick_ev b hb hl 5 (p + 1) (by omega) (by omega) (by omega)
    exact ⟨(3, a, c, p + 1 + 1), ev_pos h (Ev.bind ea (Ev.bind ec (Ev.now _))), by dsimp only; omega, by dsimp only; omega⟩
  · obtain ⟨a, ea, a0, a1, -⟩ := pick_ev b hb hl 10 p hp (by omega) (by omega)
    have J1 : ∀ v : Bool, ∃ r : Int × Int × Int × Int, Ev (fun k => spec_l71Deed.j1 k n a v b (p + 1)) r ∧ p ≤ r.2.2.2 ∧ r.2.2.2 ≤ p + 3 := by
      intro v
      cases v with
      | true =>
        obtain ⟨c, ec, -⟩ := pick_ev b hb hl n (p + 1) (by omega) (by omega) (by omega)
        obtain ⟨d, ed, -⟩ := pick_ev b hb hl 3 (p + 1 + 1) (by omega) (by omega) (by omega)
        exact ⟨(2, c, d, p + 1 + 1 + 1), Ev.step (fun k => by rw [spec_l71Deed.j1, if_pos rfl]) (by exact Ev.bind ec (Ev.bind ed (Ev.now _))), by dsimp only; omega, by dsimp only; omega⟩
      | false =>
        obtain ⟨c, ec, -⟩ := pick_ev b hb hl 3 (p + 1) (by omega) (by omega) (by omega)
        obtain ⟨d, ed, -⟩ := pick_ev b hb hl 8 (p + 1 + 1) (by omega) (by omega) (by omega)
        obtain ⟨f, ef, -⟩ := pick_ev b hb hl 3 (p + 1 + 1) (by omega) (by omega) (by omega)
        by_cases h7 : a = 7
        · exact ⟨(3, c, d, p + 1 + 1 + 1), Ev.step (fun k => by rw [spec_l71Deed.j1, if_neg Bool.false_ne_true, if_pos h7]) (by exact Ev.bind ec (Ev.bind ed (Ev.now _))), by dsimp only; omega, by dsimp only; omega⟩
        · by_cases h8 : a = 8
          · exact ⟨(4, c, f, p + 1 + 1 + 1), Ev.step (fun k => by rw [spec_l71Deed.j1, if_neg Bool.false_ne_true, if_neg h7, if_pos h8]) (by exact Ev.bind ec (Ev.bind ef (Ev.now _))), by dsimp only; omega, by dsimp only; omega⟩
          · exact ⟨(5, c, 0, p + 1 + 1), Ev.step (fun k => by rw [spec_l71Deed.j1, if_neg Bool.false_ne_true, if_neg h7, if_neg h8]) (by exact Ev.bind ec (Ev.now _)), by dsimp only; omega, by dsimp only; omega⟩
    have J0 : ∀ v : Bool, ∃ r : Int × Int × Int × Int, Ev (fun k => spec_l71Deed.j0 k n a v b (p + 1)) r ∧ p ≤ r.2.2.2 ∧ r.2.2.2 ≤ p + 3 := by
      intro v
      cases v with
      | true =>
        obtain ⟨c, ec, -⟩ := pick_ev b hb hl 3 (p + 1) (by omega) (by omega) (by omega)
        obtain ⟨d, ed, -⟩ := pick_ev b hb hl n (p + 1 + 1) (by omega) (by omega) (by omega)
        exact ⟨(1, c, d, p + 1 + 1 + 1), Ev.step (fun k => by rw [spec_l71Deed.j0, if_pos rfl]) (by exact Ev.bind ec (Ev.bind ed (Ev.now _))), by dsimp only; omega, by dsimp only; omega⟩
      | false =>
        by_cases h4 : a = 4
        · obtain ⟨r, er, h⟩ := J1 (a == 4)
          exact ⟨r, Ev.step (fun k => by rw [spec_l71Deed.j0, if_neg Bool.false_ne_true, if_pos h4]) er, h⟩
        · by_cases h5 : a = 5
          · obtain ⟨r, er, h⟩ := J1 (a == 5)
            exact ⟨r, Ev.step (fun k => by rw [spec_l71Deed.j0, if_neg Bool.false_ne_true, if_neg h4, if_pos h5]) er, h⟩
          · obtain ⟨r, er, h⟩ := J1 (a == 6)
            exact ⟨r, Ev.step (fun k => by rw [spec_l71Deed.j0, if_neg Bool.false_ne_true, if_neg h4, if_neg h5]) er, h⟩
    by_cases h0 : a = 0
    · obtain ⟨r, er, hr⟩ := J0 (a == 0)
      exact ⟨r, ev_neg h (Ev.bind ea (ev_pos h0 er)), hr⟩
    · by_cases h1 : a = 1
      · obtain ⟨r, er, hr⟩ := J0 (a == 1)
        exact ⟨r, ev_neg h (Ev.bind ea (ev_neg h0 (ev_pos h1 er))), hr⟩
      · by_cases h2 : a = 2
        · obtain ⟨r, er, hr⟩ := J0 (a == 2)
          exact ⟨r, ev_neg h (Ev.bind ea (ev_neg h0 (ev_neg h1 (ev_pos h2 er)))), hr⟩
        · obtain ⟨r, er, hr⟩ := J0 (a == 3)
          exact ⟨r, ev_neg h (Ev.bind ea (ev_neg h0 (ev_neg h1 (ev_neg h2 er)))), hr⟩
/-- Drawn deeds: at most five, with at most 22 picks. -/
theorem l71Deeds_ev (b : List Int) (hb : Bytes b) (hl : b.length ≤ 2000) (n p : Int) (hp : 0 ≤ p) (hp' : p ≤ 10000) (hn : n ≤ 1000000000) :
    ∃ r : List S41 × Int, Ev (fun k => spec_l71Deeds.f k b p n) r ∧ r.1.length ≤ 5 ∧ p ≤ r.2 ∧ r.2 ≤ p + 22 := by
  have L0 : ∀ (m : Nat) (d : List S41) (q : Int), p ≤ q → q + 3 * m ≤ 20000 → d.length + m ≤ 5 → m ≤ 5 →
      ∃ r : List S41 × Int, Ev (fun k => spec_l71Deeds.l0 k n d (m : Int) b q) r ∧ r.1.length ≤ 5 ∧ p ≤ r.2 ∧ r.2 ≤ q + 3 * m := by
    intro m
    induction m with
    | zero =>
      intro d q h1 h2 h3 h4
      exact ⟨(d, q), Ev.step (fun k => by rw [spec_l71Deeds.l0, if_neg (by omega)]) (Ev.now _), by dsimp only; omega, by dsimp only; omega, by dsimp only; omega⟩
    | succ m ih =>
      intro d q h1 h2 h3 h4
      obtain ⟨t, et, t1, t2⟩ := l71Deed_ev b hb hl n q (by omega) (by omega) hn
      obtain ⟨r, er, k1, k2, k3⟩ := ih (d ++ [⟨t.1, t.2.1, t.2.2.1⟩]) t.2.2.2 (by omega) (by omega) (by rw [List.length_append]; simp; omega) (by omega)
      refine ⟨r, Ev.step (fun k => by rw [spec_l71Deeds.l0, if_pos (by omega)]) ?_, k1, k2, by omega⟩
      refine Ev.bind et (ev_pos (by omega) ?_)
      rw [w64 (by omega) (by omega), show ((m + 1 : Nat) : Int) - 1 = (m : Int) by omega]
      exact er
  have J0 : ∀ (v : Bool) (q : Int), p ≤ q → q ≤ p + 1 → ∃ r : List S41 × Int, Ev (fun k => spec_l71Deeds.j0 k n v b q) r ∧ r.1.length ≤ 5 ∧ p ≤ r.2 ∧ r.2 ≤ p + 22 := by
    intro v q h1 h2
    cases v with
    | true =>
      obtain ⟨c, ec, -⟩ := pick_ev b hb hl n q (by omega) (by omega) (by omega)
      obtain ⟨d, ed, -⟩ := pick_ev b hb hl 4 (q + 1) (by omega) (by omega) (by omega)
      exact ⟨_, Ev.step (fun k => by rw [spec_l71Deeds.j0, if_pos rfl]) (by exact Ev.bind ec (Ev.bind ed (Ev.now _))), by simp, by dsimp only; omega, by dsimp only; omega⟩
    | false =>
      obtain ⟨c, ec, c0, c1, -⟩ := pick_ev b hb hl 5 q (by omega) (by omega) (by omega)
      have c1 := c1 (by omega)
      obtain ⟨r, er, r1, r2, r3⟩ := L0 (1 + c).toNat [] (q + 1) (by omega) (by omega) (by simp; omega) (by omega)
      rw [show (((1 + c).toNat : Nat) : Int) = 1 + c by omega] at er
      refine ⟨r, Ev.step (fun k => by rw [spec_l71Deeds.j0, if_neg Bool.false_ne_true]) ?_, r1, r2, by omega⟩
      refine Ev.bind ec ?_
      rw [w64 (by omega) (by omega)]
      exact er
  unfold spec_l71Deeds.f
  by_cases h : n > 0
  · obtain ⟨a, ea, -⟩ := pick_ev b hb hl 3 p hp (by omega) (by omega)
    obtain ⟨r, er, h1⟩ := J0 (a == 0) (p + 1) (by omega) (by omega)
    exact ⟨r, ev_pos h (Ev.bind ea er), h1⟩
  · obtain ⟨r, er, h1⟩ := J0 false p (by omega) (by omega)
    exact ⟨r, ev_neg h er, h1⟩
end Go.Proofs.Ytedbgdnhkcllaaa.PDraw
