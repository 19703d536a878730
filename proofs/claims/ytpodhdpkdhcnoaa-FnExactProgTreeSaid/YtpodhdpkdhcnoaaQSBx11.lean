-- Written by a program of this session (wip/tools/myprint.py).
import Derived.Test.YtpodhdpkdhcnoaaQSBx0
import Derived.Test.YtpodhdpkdhcnoaaQSBx9
import Derived.Test.YtpodhdpkdhcnoaaQSBx10
namespace Go.Proofs.Ytpodhdpkdhcnoaa.QSB
open Go.RowKit Go.Proofs.YtpodhdpkdhcnoaaW.PrintWords Go.Proofs.YtpodhdpkdhcnoaaW.PrintLast Go.Proofs.YtpodhdpkdhcnoaaW.PrintMore
attribute [local go_sem] max2_int min2_int max_two min_two max_three min_three max_four min_four   -- for this text's walks alone
set_option linter.unusedVariables false
set_option linter.unusedSimpArgs false

/-! ### impl_actOk: function 61 -/
def kidOk (body bodies x : Int) : Bool := !(decide (x ≤ body) || decide (x ≥ bodies))
def kidsOk (l : List Int) (body bodies : Int) : Bool := l.all (kidOk body bodies) && (decide (1 ≤ l.length) && decide (l.length ≤ 2))
def impl_actOk.f (k : Nat) (a0 : Int) (l1 : List S138) (l2 : List Int) (a3 cells body bodies : Int) : Option Bool :=
  if a0 = 1 ∧ l2.length = 0 ∧ a3 = 0 then impl_ChangeOk.f k l1 cells
  else if a0 = 2 ∧ l1.length = 0 ∧ a3 = 0 then some (kidsOk l2 body bodies)
  else if a0 = 3 ∧ l1.length = 0 ∧ l2.length = 0 ∧ a3 = 0 then some true
  else if a0 = 4 ∧ l1.length = 0 ∧ l2.length = 0 then impl_isReg.f a3
  else some false
theorem impl_actOk.mono : ∀ a0 a1 a2 a3 a4 a5 a6 k, LeO (impl_actOk.f k a0 a1 a2 a3 a4 a5 a6) (impl_actOk.f (k + 1) a0 a1 a2 a3 a4 a5 a6) := by
  intro a0 a1 a2 a3 a4 a5 a6 k
  unfold impl_actOk.f
  exact LeO.ite (impl_ChangeOk.mono _ _ _) (LeO.refl _)
set_option maxHeartbeats 4000000 in
set_option maxRecDepth 100000 in
theorem impl_actOk.calls (k : Nat) (a0 : Int) (A1 : Option Addr) (c1 : Nat) (l1 : List S138) (A2 : Option Addr) (c2 : Nat) (l2 : List Int) (a3 cells body bodies : Int) (r : Bool) (w : World) (hr1 : Kd.C k138 w A1 l1.length l1) (hc1 : l1.length ≤ c1) (hr2 : Kd.C (Kd.int .i64) w A2 l2.length l2) (hc2 : l2.length ≤ c2) (h : impl_actOk.f k a0 l1 l2 a3 cells body bodies = some r) :
    Calls Try.prog 61 #[actW a0 (.slice A1 l1.length c1) l1.length (.slice A2 l2.length c2) l2.length a3, .int .i64 cells, .int .i64 body, .int .i64 bodies] w fun e w' => e = .returned (.bool r) ∧ Below w.heap.size w w' := by
  have hu1 := Try.underlying120
  have hu2 := Try.underlying123
  have hu3 := Try.underlying125
  have hu4 := Try.underlying127
  have hu5 := Try.underlying28
  have HR1 := Aside0.mk hr1
  have HC1 := Aside0.mk hc1
  have HR2 := Aside0.mk hr2
  have HC2 := Aside0.mk hc2
  clear hr1 hc1 hr2 hc2
  unfold impl_actOk.f at h
  unfold actW
  by_cases q1 : a0 = 1 ∧ l2.length = 0 ∧ a3 = 0
  · rw [if_pos q1] at h ⊢
    have H1 := Aside0.mk h
    clear h q1
    have y1 : ∀ W, (Instr.typeAssert (.iface 120 (.agg #[.slice A1 l1.length c1])) 93 120 true).run Try.prog W = .ok (.tuple #[.agg #[.slice A1 l1.length c1], .bool true]) W := fun W => by kernel_rfl
    go_enter Try.func61, Try.ntmps61
    go_wp2_with fail
    refine (impl_ChangeOk.calls k A1 c1 l1 cells r _ (Kd.C_alloc HR1.out _) HC1.out H1.out).mono ?_
    rintro e w1 ⟨rfl, hb⟩
    have HB := Aside0.mk hb
    clear hb
    go_wp2
    go_ret
    exact ⟨rfl, below_step (below_alloc (Below.refl _ _) _) HB.out⟩
  rw [if_neg q1] at h ⊢
  by_cases q2 : a0 = 2 ∧ l1.length = 0 ∧ a3 = 0
  · rw [if_pos q2] at h ⊢
    obtain rfl : kidsOk l2 body bodies = r := by simpa using h
    clear h q1 q2
    have y1 : ∀ W, (Instr.typeAssert (.iface 123 (.agg #[.slice A2 l2.length c2])) 93 120 true).run Try.prog W = .ok (.tuple #[.agg #[.slice none 0 0], .bool false]) W := fun W => by kernel_rfl
    have y2 : ∀ W, (Instr.typeAssert (.iface 123 (.agg #[.slice A2 l2.length c2])) 93 123 true).run Try.prog W = .ok (.tuple #[.agg #[.slice A2 l2.length c2], .bool true]) W := fun W => by kernel_rfl
    have HM := Aside0.mk (show l2.length ≤ 9223372036854775807 from HR2.out.2.1)
    have hb0 : (w.alloc (.cells #[.slice A2 l2.length c2] 123)).heap[w.heap.size]? = some (.cells #[.slice A2 l2.length c2] 123 (0, 0)) := heap_alloc_new w _
    have HB0 := Aside0.mk hb0
    clear hb0
    go_enter Try.func61, Try.ntmps61
    go_wp2
    go_loopw [29] (fun v29 wr => ∃ x : Int, v29 = .int .i64 x ∧ Aside0 (0 ≤ x ∧ x ≤ (l2.length : Nat)) ∧ Aside0 (∀ j : Nat, (j : Int) < x → kidOk body bodies (rd l2 (j : Int)) = true) ∧ Aside0 (Below w.heap.size w wr) ∧ Aside0 (wr.heap[w.heap.size]? = some (.cells #[.slice A2 l2.length c2] 123 (0, 0)))) (fun v29 _ => l2.length - (intOf v29).toNat)
    case atStart => exact ⟨0, rfl, ⟨by omega, by omega⟩, ⟨fun j hj => absurd hj (by omega)⟩, ⟨below_alloc (Below.refl _ _) _⟩, HB0⟩
    case round =>
      clear HB0
      obtain ⟨x, rfl, HX, HK, HB, HBX⟩ := hrel
      by_cases c0 : x < ((l2.length : Nat) : Int)
      · have c0b : decide (x < ((l2.length : Nat) : Int)) = true := decide_eq_true c0
        have hx0 := HX.out.1
        obtain ⟨ad, ea, hx⟩ := Kd.at_int (Kd.C_below HR2.out HB.out) x hx0 c0
        cases ea
        have HP := Aside0.mk c0
        have p0 := eq_true hx0
        have p1 := eq_true c0
        clear c0 hx0
        obtain ⟨y, hy⟩ : ∃ y, y = rd l2 x := ⟨_, rfl⟩
        rw [← hy] at hx
        have HY := Aside0.mk hy
        clear hy
        by_cases c3 : kidOk body bodies y = true
        · have HG := Aside0.mk c3
          unfold kidOk at c3
          have d1 : decide (y ≤ body) = false := by revert c3; cases decide (y ≤ body) <;> simp
          have d2 : decide (y ≥ bodies) = false := by revert c3; cases decide (y ≥ bodies) <;> simp
          have d2' : decide (bodies ≤ y) = false := d2
          clear c3
          go_wp2
          go_roundw
          case rel =>
            have e1 : (wrap64 (x + 1)) = x + 1 := by have h1 := HX.out.1; have h2 := HP.out; have h3 := HM.out; unfold wrap64; omega
            refine ⟨_, rfl, ⟨?_⟩, ⟨?_⟩, HB, HBX⟩
            · rw [e1]; exact ⟨by have := HX.out.1; omega, by have := HP.out; omega⟩
            · rw [e1]
              intro j hj
              by_cases hjx : (j : Int) = x
              · rw [hjx, ← HY.out]; exact HG.out
              · exact HK.out j (by omega)
          case measure =>
            have h1 := HX.out.1
            have h2 := HP.out
            have h3 := HM.out
            have e1 : (wrap64 (x + 1)) = x + 1 := by unfold wrap64; omega
            rw [e1]
            simp [intOf]
            omega
        · have hf : kidsOk l2 body bodies = false := by
            have hxl : x.toNat < l2.length := by have h1 := HX.out.1; have h2 := HP.out; omega
            have e : l2[x.toNat] = y := by rw [HY.out]; simp [rd, List.getD, hxl]
            unfold kidsOk
            rw [Bool.and_eq_false_iff]
            refine .inl (List.all_eq_false.2 ⟨l2[x.toNat], List.getElem_mem hxl, ?_⟩)
            rw [e]; exact c3
          have HF := Aside0.mk hf
          unfold kidOk at c3
          by_cases c4 : y ≤ body
          · have d1 : decide (y ≤ body) = true := decide_eq_true c4
            clear c3 c4 hf
            go_wp2
            go_ret
            exact ⟨by rw [HF.out]; rfl, HB.out⟩
          · have d1 : decide (y ≤ body) = false := decide_eq_false c4
            have d2 : decide (y ≥ bodies) = true := by rw [d1] at c3; simpa using c3
            have d2' : decide (bodies ≤ y) = true := d2
            clear c3 c4 hf
            go_wp2
            go_ret
            exact ⟨by rw [HF.out]; rfl, HB.out⟩
      · have c0b : decide (x < ((l2.length : Nat) : Int)) = false := decide_eq_false c0
        have HE := Aside0.mk (show x = (l2.length : Nat) by have := HX.out.1; have := HX.out.2; omega)
        clear c0
        have hbx : wr.cell? ⟨w.heap.size, 0, none⟩ = some (.slice A2 l2.length c2) := (blk_cell HBX.out 0).trans rfl
        have hall : l2.all (kidOk body bodies) = true := by
          rw [List.all_eq_true]
          intro z hz
          obtain ⟨j, hj, rfl⟩ := List.getElem_of_mem hz
          have := HK.out j (by rw [HE.out]; omega)
          simpa [rd, List.getD, hj] using this
        have hv : kidsOk l2 body bodies = (decide (1 ≤ l2.length) && decide (l2.length ≤ 2)) := by unfold kidsOk; rw [hall, Bool.true_and]
        have HV := Aside0.mk hv
        clear hall hv
        by_cases n1 : 1 ≤ l2.length
        · have m1 : decide ((l2.length : Int) ≥ 1) = true := decide_eq_true (by omega)
          have m1' : decide ((1 : Int) ≤ (l2.length : Int)) = true := decide_eq_true (by omega)
          have m1'' : decide (1 ≤ l2.length) = true := decide_eq_true n1
          by_cases n2 : l2.length ≤ 2
          · have m2 : decide ((l2.length : Int) ≤ 2) = true := decide_eq_true (by omega)
            have m2' : decide (l2.length ≤ 2) = true := decide_eq_true n2
            clear n1 n2
            go_wp2
            go_ret
            exact ⟨by rw [HV.out, m1'', m2']; rfl, HB.out⟩
          · have m2 : decide ((l2.length : Int) ≤ 2) = false := decide_eq_false (by omega)
            have m2' : decide (l2.length ≤ 2) = false := decide_eq_false n2
            clear n1 n2
            go_wp2
            go_ret
            exact ⟨by rw [HV.out, m1'', m2']; rfl, HB.out⟩
        · have m1 : decide ((l2.length : Int) ≥ 1) = false := decide_eq_false (by omega)
          have m1' : decide ((1 : Int) ≤ (l2.length : Int)) = false := decide_eq_false (by omega)
          have m1'' : decide (1 ≤ l2.length) = false := decide_eq_false n1
          clear n1
          go_wp2
          go_ret
          exact ⟨by rw [HV.out, m1'']; rfl, HB.out⟩
  rw [if_neg q2] at h ⊢
  by_cases q3 : a0 = 3 ∧ l1.length = 0 ∧ l2.length = 0 ∧ a3 = 0
  · rw [if_pos q3] at h ⊢
    obtain rfl : true = r := by simpa using h
    clear h q1 q2 q3
    have y1 : ∀ W, (Instr.typeAssert (.iface 125 (.agg #[])) 93 120 true).run Try.prog W = .ok (.tuple #[.agg #[.slice none 0 0], .bool false]) W := fun W => by kernel_rfl
    have y2 : ∀ W, (Instr.typeAssert (.iface 125 (.agg #[])) 93 123 true).run Try.prog W = .ok (.tuple #[.agg #[.slice none 0 0], .bool false]) W := fun W => by kernel_rfl
    have y3 : ∀ W, (Instr.typeAssert (.iface 125 (.agg #[])) 93 125 true).run Try.prog W = .ok (.tuple #[.agg #[], .bool true]) W := fun W => by kernel_rfl
    go_enter Try.func61, Try.ntmps61
    go_wp2
    go_ret
    exact ⟨rfl, by repeat (first | exact Below.refl _ _ | apply pw_below_drewN | apply below_alloc)⟩
  rw [if_neg q3] at h ⊢
  by_cases q4 : a0 = 4 ∧ l1.length = 0 ∧ l2.length = 0
  · rw [if_pos q4] at h ⊢
    have H1 := Aside0.mk h
    clear h q1 q2 q3 q4
    have y1 : ∀ W, (Instr.typeAssert (.iface 127 (.agg #[.int .i64 a3])) 93 120 true).run Try.prog W = .ok (.tuple #[.agg #[.slice none 0 0], .bool false]) W := fun W => by kernel_rfl
    have y2 : ∀ W, (Instr.typeAssert (.iface 127 (.agg #[.int .i64 a3])) 93 123 true).run Try.prog W = .ok (.tuple #[.agg #[.slice none 0 0], .bool false]) W := fun W => by kernel_rfl
    have y3 : ∀ W, (Instr.typeAssert (.iface 127 (.agg #[.int .i64 a3])) 93 125 true).run Try.prog W = .ok (.tuple #[.agg #[], .bool false]) W := fun W => by kernel_rfl
    have y4 : ∀ W, (Instr.typeAssert (.iface 127 (.agg #[.int .i64 a3])) 93 127 true).run Try.prog W = .ok (.tuple #[.agg #[.int .i64 a3], .bool true]) W := fun W => by kernel_rfl
    go_enter Try.func61, Try.ntmps61
    go_wp2_with fail
    refine (impl_isReg.calls a3 r _ H1.out).mono ?_
    rintro e w1 ⟨rfl, hd⟩
    obtain ⟨nd, rfl⟩ := hd.out
    go_wp2
    go_ret
    exact ⟨rfl, by repeat (first | exact Below.refl _ _ | apply pw_below_drewN | apply below_alloc)⟩
  rw [if_neg q4] at h ⊢
  obtain rfl : false = r := by simpa using h
  clear h q1 q2 q3 q4
  have y1 : ∀ W, (Instr.typeAssert .nilIface 93 120 true).run Try.prog W = .ok (.tuple #[.agg #[.slice none 0 0], .bool false]) W := fun W => by kernel_rfl
  have y2 : ∀ W, (Instr.typeAssert .nilIface 93 123 true).run Try.prog W = .ok (.tuple #[.agg #[.slice none 0 0], .bool false]) W := fun W => by kernel_rfl
  have y3 : ∀ W, (Instr.typeAssert .nilIface 93 125 true).run Try.prog W = .ok (.tuple #[.agg #[], .bool false]) W := fun W => by kernel_rfl
  have y4 : ∀ W, (Instr.typeAssert .nilIface 93 127 true).run Try.prog W = .ok (.tuple #[.agg #[.int .i64 0], .bool false]) W := fun W => by kernel_rfl
  go_enter Try.func61, Try.ntmps61
  go_wp2
  go_ret
  exact ⟨rfl, by repeat (first | exact Below.refl _ _ | apply pw_below_drewN | apply below_alloc)⟩

/-! ### impl_partOfAct: function 62 -/
theorem int_eq_nat (n : Nat) : (((n : Int) == 0) : Bool) = (n == 0) := by
  rw [Bool.eq_iff_iff]; simp
set_option maxHeartbeats 4000000 in
set_option maxRecDepth 100000 in
theorem impl_partOfAct.calls (k : Int) (A1 : Option Addr) (n1 c1 : Nat) (A2 : Option Addr) (n2 c2 : Nat) (r : Int) (w : World) :
    Calls Try.prog 62 #[.agg #[.int .i64 k, .slice A1 n1 c1, .slice A2 n2 c2, .int .i64 r]] w fun e w' => e = .returned (actW k (.slice A1 n1 c1) n1 (.slice A2 n2 c2) n2 r) ∧ Below w.heap.size w w' := by
  have hu := Try.underlying90
  have hu1 := Try.underlying120
  have hu2 := Try.underlying123
  have hu3 := Try.underlying125
  have hu4 := Try.underlying127
  have e1 := int_eq_nat n1
  have e2 := int_eq_nat n2
  obtain ⟨b1, hb1⟩ : ∃ b, b = (n1 == 0) := ⟨_, rfl⟩
  obtain ⟨b2, hb2⟩ : ∃ b, b = (n2 == 0) := ⟨_, rfl⟩
  obtain ⟨b3, hb3⟩ : ∃ b, b = (r == 0) := ⟨_, rfl⟩
  rw [← hb1] at e1
  rw [← hb2] at e2
  have H1 := Aside0.mk hb1
  have H2 := Aside0.mk hb2
  have H3 := Aside0.mk hb3
  have e3 : (r == 0) = b3 := hb3.symm
  clear hb1 hb2 hb3
  obtain ⟨q1, hq1⟩ : ∃ b, b = (k == 1) := ⟨_, rfl⟩
  obtain ⟨q2, hq2⟩ : ∃ b, b = (k == 2) := ⟨_, rfl⟩
  obtain ⟨q3, hq3⟩ : ∃ b, b = (k == 3) := ⟨_, rfl⟩
  obtain ⟨q4, hq4⟩ : ∃ b, b = (k == 4) := ⟨_, rfl⟩
  have f1 := hq1.symm
  have f2 := hq2.symm
  have f3 := hq3.symm
  have f4 := hq4.symm
  have K1 := Aside0.mk hq1
  have K2 := Aside0.mk hq2
  have K3 := Aside0.mk hq3
  have K4 := Aside0.mk hq4
  clear hq1 hq2 hq3 hq4
  go_enter Try.func62, Try.ntmps62
  go_wp2
  go_quiet (fail)
  go_wp2
  all_goals
    go_ret
    refine ⟨?_, by repeat (first | exact Below.refl _ _ | apply pw_below_drewN | apply below_drew1 | apply below_alloc)⟩
    have h1 := K1.out
    have h2 := K2.out
    have h3 := K3.out
    have h4 := K4.out
    have g1 := H1.out
    have g2 := H2.out
    have g3 := H3.out
    clear K1 K2 K3 K4 H1 H2 H3
    clear hu hu1 hu2 hu3 hu4 e1 e2
    try clear e3
    simp_all [actW]

end Go.Proofs.Ytpodhdpkdhcnoaa.QSB
