/- Part 4 of what FnExactSysNew leans on: contracts of Go functions, and plain lemmas, each under its own premises. Put together by wip/tools/pack.py. -/
import Derived.Test.YtoeepmcaabmjkaaKSN0
import Derived.Test.YtoeepmcaabmjkaaKSN1
import Derived.Test.YtoeepmcaabmjkaaKSN2
import Derived.Test.YtoeepmcaabmjkaaKSN3
namespace Go.Proofs.Ytoeepmcaabmjkaa.QSN
open Go.RowKit Go.Proofs.YtoeepmcaabmjkaaW.PrintWords Go.Proofs.YtoeepmcaabmjkaaW.PrintLast Go.Proofs.YtoeepmcaabmjkaaW.PrintMore
attribute [local go_sem] max2_int min2_int max_two min_two max_three min_three max_four min_four   -- for this text's walks alone
set_option linter.unusedVariables false
set_option linter.unusedSimpArgs false
def kidOk (body bodies x : Int) : Bool := !(decide (x ≤ body) || decide (x ≥ bodies))
def kidsOk (l : List Int) (body bodies : Int) : Bool := l.all (kidOk body bodies) && (decide (1 ≤ l.length) && decide (l.length ≤ 2))
def impl_actOk.f (k : Nat) (a0 : Int) (l1 : List S122) (l2 : List Int) (a3 cells body bodies : Int) : Option Bool :=
  if a0 = 1 ∧ l2.length = 0 ∧ a3 = 0 then impl_ChangeOk.f k l1 cells
  else if a0 = 2 ∧ l1.length = 0 ∧ a3 = 0 then some (kidsOk l2 body bodies)
  else if a0 = 3 ∧ l1.length = 0 ∧ l2.length = 0 ∧ a3 = 0 then some true
  else if a0 = 4 ∧ l1.length = 0 ∧ l2.length = 0 then impl_isReg.f a3
  else some false
set_option maxHeartbeats 4000000 in
set_option maxRecDepth 100000 in
theorem impl_actOk.calls (k : Nat) (a0 : Int) (A1 : Option Addr) (c1 : Nat) (l1 : List S122) (A2 : Option Addr) (c2 : Nat) (l2 : List Int) (a3 cells body bodies : Int) (r : Bool) (w : World) (hr1 : Kd.C k122 w A1 l1.length l1) (hc1 : l1.length ≤ c1) (hr2 : Kd.C (Kd.int .i64) w A2 l2.length l2) (hc2 : l2.length ≤ c2) (h : impl_actOk.f k a0 l1 l2 a3 cells body bodies = some r) :
    Calls Try.prog 61 #[actW a0 (.slice A1 l1.length c1) l1.length (.slice A2 l2.length c2) l2.length a3, .int .i64 cells, .int .i64 body, .int .i64 bodies] w fun e w' => e = .returned (.bool r) ∧ Below w.heap.size w w' := by
  have hu1 := Try.underlying127
  have hu2 := Try.underlying130
  have hu3 := Try.underlying132
  have hu4 := Try.underlying134
  have hu5 := Try.underlying22
  have HR1 := Aside0.mk hr1
  have HC1 := Aside0.mk hc1
  have HR2 := Aside0.mk hr2
  have HC2 := Aside0.mk hc2
  clear hr1 hc1 hr2 hc2
  unfold impl_actOk.f at h
  unfold actW
  by_cases q1 : a0 = 1 ∧ l2.length = 0 ∧ a3 = 0
  · rw [if_pos q1] at h ⊢
    have H1 := Aside0.mk h
    clear h q1
    have y1 : ∀ W, (Instr.typeAssert (.iface 127 (.agg #[.slice A1 l1.length c1])) 97 127 true).run Try.prog W = .ok (.tuple #[.agg #[.slice A1 l1.length c1], .bool true]) W := fun W => by kernel_rfl
    go_enter Try.func61, Try.ntmps61
    go_wp2_with fail
    refine (impl_ChangeOk.calls k A1 c1 l1 cells r _ (Kd.C_alloc HR1.out _) HC1.out H1.out).mono ?_
    rintro e w1 ⟨rfl, hb⟩
    have HB := Aside0.mk hb
    clear hb
    go_wp2
    go_ret
    exact ⟨rfl, below_step (below_alloc (Below.refl _ _) _) HB.out⟩
  rw [if_neg q1] at h ⊢
  by_cases q2 : a0 = 2 ∧ l1.length = 0 ∧ a3 = 0
  · rw [if_pos q2] at h ⊢
    obtain rfl : kidsOk l2 body bodies = r := by simpa using h
    clear h q1 q2
    have y1 : ∀ W, (Instr.typeAssert (.iface 130 (.agg #[.slice A2 l2.length c2])) 97 127 true).run Try.prog W = .ok (.tuple #[.agg #[.slice none 0 0], .bool false]) W := fun W => by kernel_rfl
    have y2 : ∀ W, (Instr.typeAssert (.iface 130 (.agg #[.slice A2 l2.length c2])) 97 130 true).run Try.prog W = .ok (.tuple #[.agg #[.slice A2 l2.length c2], .bool true]) W := fun W => by kernel_rfl
    have HM := Aside0.mk (show l2.length ≤ 9223372036854775807 from HR2.out.2.1)
    have hb0 : (w.alloc (.cells #[.slice A2 l2.length c2] 130)).heap[w.heap.size]? = some (.cells #[.slice A2 l2.length c2] 130 (0, 0)) := heap_alloc_new w _
    have HB0 := Aside0.mk hb0
    clear hb0
    go_enter Try.func61, Try.ntmps61
    go_wp2
    go_loopw [29] (fun v29 wr => ∃ x : Int, v29 = .int .i64 x ∧ Aside0 (0 ≤ x ∧ x ≤ (l2.length : Nat)) ∧ Aside0 (∀ j : Nat, (j : Int) < x → kidOk body bodies (rd l2 (j : Int)) = true) ∧ Aside0 (Below w.heap.size w wr) ∧ Aside0 (wr.heap[w.heap.size]? = some (.cells #[.slice A2 l2.length c2] 130 (0, 0)))) (fun v29 _ => l2.length - (intOf v29).toNat)
    case atStart => exact ⟨0, rfl, ⟨by omega, by omega⟩, ⟨fun j hj => absurd hj (by omega)⟩, ⟨below_alloc (Below.refl _ _) _⟩, HB0⟩
    case round =>
      clear HB0
      obtain ⟨x, rfl, HX, HK, HB, HBX⟩ := hrel
      by_cases c0 : x < ((l2.length : Nat) : Int)
      · have c0b : decide (x < ((l2.length : Nat) : Int)) = true := decide_eq_true c0
        have hx0 := HX.out.1
        obtain ⟨ad, ea, hx⟩ := Kd.at_int (Kd.C_below HR2.out HB.out) x hx0 c0
        cases ea
        have HP := Aside0.mk c0
        have p0 := eq_true hx0
        have p1 := eq_true c0
        clear c0 hx0
        obtain ⟨y, hy⟩ : ∃ y, y = rd l2 x := ⟨_, rfl⟩
        rw [← hy] at hx
        have HY := Aside0.mk hy
        clear hy
        by_cases c3 : kidOk body bodies y = true
        · have HG := Aside0.mk c3
          unfold kidOk at c3
          have d1 : decide (y ≤ body) = false := by revert c3; cases decide (y ≤ body) <;> simp
          have d2 : decide (y ≥ bodies) = false := by revert c3; cases decide (y ≥ bodies) <;> simp
          have d2' : decide (bodies ≤ y) = false := d2
          clear c3
          go_wp2
          go_roundw
          case rel =>
            have e1 : (wrap64 (x + 1)) = x + 1 := by have h1 := HX.out.1; have h2 := HP.out; have h3 := HM.out; unfold wrap64; omega
            refine ⟨_, rfl, ⟨?_⟩, ⟨?_⟩, HB, HBX⟩
            · rw [e1]; exact ⟨by have := HX.out.1; omega, by have := HP.out; omega⟩
            · rw [e1]
              intro j hj
              by_cases hjx : (j : Int) = x
              · rw [hjx, ← HY.out]; exact HG.out
              · exact HK.out j (by omega)
          case measure =>
            have h1 := HX.out.1
            have h2 := HP.out
            have h3 := HM.out
            have e1 : (wrap64 (x + 1)) = x + 1 := by unfold wrap64; omega
            rw [e1]
            simp [intOf]
            omega
        · have hf : kidsOk l2 body bodies = false := by
            have hxl : x.toNat < l2.length := by have h1 := HX.out.1; have h2 := HP.out; omega
            have e : l2[x.toNat] = y := by rw [HY.out]; simp [rd, List.getD, hxl]
            unfold kidsOk
            rw [Bool.and_eq_false_iff]
            refine .inl (List.all_eq_false.2 ⟨l2[x.toNat], List.getElem_mem hxl, ?_⟩)
            rw [e]; exact c3
          have HF := Aside0.mk hf
          unfold kidOk at c3
          by_cases c4 : y ≤ body
          · have d1 : decide (y ≤ body) = true := decide_eq_true c4
            clear c3 c4 hf
            go_wp2
            go_ret
            exact ⟨by rw [HF.out]; rfl, HB.out⟩
          · have d1 : decide (y ≤ body) = false := decide_eq_false c4
            have d2 : decide (y ≥ bodies) = true := by rw [d1] at c3; simpa using c3
            have d2' : decide (bodies ≤ y) = true := d2
            clear c3 c4 hf
            go_wp2
            go_ret
            exact ⟨by rw [HF.out]; rfl, HB.out⟩
      · have c0b : decide (x < ((l2.length : Nat) : Int)) = false := decide_eq_false c0
        have HE := Aside0.mk (show x = (l2.length : Nat) by have := HX.out.1; have := HX.out.2; omega)
        clear c0
        have hbx : wr.cell? ⟨w.heap.size, 0, none⟩ = some (.slice A2 l2.length c2) := (blk_cell HBX.out 0).trans rfl
        have hall : l2.all (kidOk body bodies) = true := by
          rw [List.all_eq_true]
          intro z hz
          obtain ⟨j, hj, rfl⟩ := List.getElem_of_mem hz
          have := HK.out j (by rw [HE.out]; omega)
          simpa [rd, List.getD, hj] using this
        have hv : kidsOk l2 body bodies = (decide (1 ≤ l2.length) && decide (l2.length ≤ 2)) := by unfold kidsOk; rw [hall, Bool.true_and]
        have HV := Aside0.mk hv
        clear hall hv
        by_cases n1 : 1 ≤ l2.length
        · have m1 : decide ((l2.length : Int) ≥ 1) = true := decide_eq_true (by omega)
          have m1' : decide ((1 : Int) ≤ (l2.length : Int)) = true := decide_eq_true (by omega)
          have m1'' : decide (1 ≤ l2.length) = true := decide_eq_true n1
          by_cases n2 : l2.length ≤ 2
          · have m2 : decide ((l2.length : Int) ≤ 2) = true := decide_eq_true (by omega)
            have m2' : decide (l2.length ≤ 2) = true := decide_eq_true n2
            clear n1 n2
            go_wp2
            go_ret
            exact ⟨by rw [HV.out, m1'', m2']; rfl, HB.out⟩
          · have m2 : decide ((l2.length : Int) ≤ 2) = false := decide_eq_false (by omega)
            have m2' : decide (l2.length ≤ 2) = false := decide_eq_false n2
            clear n1 n2
            go_wp2
            go_ret
            exact ⟨by rw [HV.out, m1'', m2']; rfl, HB.out⟩
        · have m1 : decide ((l2.length : Int) ≥ 1) = false := decide_eq_false (by omega)
          have m1' : decide ((1 : Int) ≤ (l2.length : Int)) = false := decide_eq_false (by omega)
          have m1'' : decide (1 ≤ l2.length) = false := decide_eq_false n1
          clear n1
          go_wp2
          go_ret
          exact ⟨by rw [HV.out, m1'']; rfl, HB.out⟩
  rw [if_neg q2] at h ⊢
  by_cases q3 : a0 = 3 ∧ l1.length = 0 ∧ l2.length = 0 ∧ a3 = 0
  · rw [if_pos q3] at h ⊢
    obtain rfl : true = r := by simpa using h
    clear h q1 q2 q3
    have y1 : ∀ W, (Instr.typeAssert (.iface 132 (.agg #[])) 97 127 true).run Try.prog W = .ok (.tuple #[.agg #[.slice none 0 0], .bool false]) W := fun W => by kernel_rfl
    have y2 : ∀ W, (Instr.typeAssert (.iface 132 (.agg #[])) 97 130 true).run Try.prog W = .ok (.tuple #[.agg #[.slice none 0 0], .bool false]) W := fun W => by kernel_rfl
    have y3 : ∀ W, (Instr.typeAssert (.iface 132 (.agg #[])) 97 132 true).run Try.prog W = .ok (.tuple #[.agg #[], .bool true]) W := fun W => by kernel_rfl
    go_enter Try.func61, Try.ntmps61
    go_wp2
    go_ret
    exact ⟨rfl, by repeat (first | exact Below.refl _ _ | apply pw_below_drewN | apply below_alloc)⟩
  rw [if_neg q3] at h ⊢
  by_cases q4 : a0 = 4 ∧ l1.length = 0 ∧ l2.length = 0
  · rw [if_pos q4] at h ⊢
    have H1 := Aside0.mk h
    clear h q1 q2 q3 q4
    have y1 : ∀ W, (Instr.typeAssert (.iface 134 (.agg #[.int .i64 a3])) 97 127 true).run Try.prog W = .ok (.tuple #[.agg #[.slice none 0 0], .bool false]) W := fun W => by kernel_rfl
    have y2 : ∀ W, (Instr.typeAssert (.iface 134 (.agg #[.int .i64 a3])) 97 130 true).run Try.prog W = .ok (.tuple #[.agg #[.slice none 0 0], .bool false]) W := fun W => by kernel_rfl
    have y3 : ∀ W, (Instr.typeAssert (.iface 134 (.agg #[.int .i64 a3])) 97 132 true).run Try.prog W = .ok (.tuple #[.agg #[], .bool false]) W := fun W => by kernel_rfl
    have y4 : ∀ W, (Instr.typeAssert (.iface 134 (.agg #[.int .i64 a3])) 97 134 true).run Try.prog W = .ok (.tuple #[.agg #[.int .i64 a3], .bool true]) W := fun W => by kernel_rfl
    go_enter Try.func61, Try.ntmps61
    go_wp2_with fail
    refine (impl_isReg.calls a3 r _ H1.out).mono ?_
    rintro e w1 ⟨rfl, hd⟩
    obtain ⟨nd, rfl⟩ := hd.out
    go_wp2
    go_ret
    exact ⟨rfl, by repeat (first | exact Below.refl _ _ | apply pw_below_drewN | apply below_alloc)⟩
  rw [if_neg q4] at h ⊢
  obtain rfl : false = r := by simpa using h
  clear h q1 q2 q3 q4
  have y1 : ∀ W, (Instr.typeAssert .nilIface 97 127 true).run Try.prog W = .ok (.tuple #[.agg #[.slice none 0 0], .bool false]) W := fun W => by kernel_rfl
  have y2 : ∀ W, (Instr.typeAssert .nilIface 97 130 true).run Try.prog W = .ok (.tuple #[.agg #[.slice none 0 0], .bool false]) W := fun W => by kernel_rfl
  have y3 : ∀ W, (Instr.typeAssert .nilIface 97 132 true).run Try.prog W = .ok (.tuple #[.agg #[], .bool false]) W := fun W => by kernel_rfl
  have y4 : ∀ W, (Instr.typeAssert .nilIface 97 134 true).run Try.prog W = .ok (.tuple #[.agg #[.int .i64 0], .bool false]) W := fun W => by kernel_rfl
  go_enter Try.func61, Try.ntmps61
  go_wp2
  go_ret
  exact ⟨rfl, by repeat (first | exact Below.refl _ _ | apply pw_below_drewN | apply below_alloc)⟩
theorem int_eq_nat (n : Nat) : (((n : Int) == 0) : Bool) = (n == 0) := by
  rw [Bool.eq_iff_iff]; simp
set_option maxHeartbeats 4000000 in
set_option maxRecDepth 100000 in
theorem impl_partOfAct.calls (k : Int) (A1 : Option Addr) (n1 c1 : Nat) (A2 : Option Addr) (n2 c2 : Nat) (r : Int) (w : World) :
    Calls Try.prog 62 #[.agg #[.int .i64 k, .slice A1 n1 c1, .slice A2 n2 c2, .int .i64 r]] w fun e w' => e = .returned (actW k (.slice A1 n1 c1) n1 (.slice A2 n2 c2) n2 r) ∧ Below w.heap.size w w' := by
  have hu := Try.underlying57
  have hu1 := Try.underlying127
  have hu2 := Try.underlying130
  have hu3 := Try.underlying132
  have hu4 := Try.underlying134
  have e1 := int_eq_nat n1
  have e2 := int_eq_nat n2
  obtain ⟨b1, hb1⟩ : ∃ b, b = (n1 == 0) := ⟨_, rfl⟩
  obtain ⟨b2, hb2⟩ : ∃ b, b = (n2 == 0) := ⟨_, rfl⟩
  obtain ⟨b3, hb3⟩ : ∃ b, b = (r == 0) := ⟨_, rfl⟩
  rw [← hb1] at e1
  rw [← hb2] at e2
  have H1 := Aside0.mk hb1
  have H2 := Aside0.mk hb2
  have H3 := Aside0.mk hb3
  have e3 : (r == 0) = b3 := hb3.symm
  clear hb1 hb2 hb3
  obtain ⟨q1, hq1⟩ : ∃ b, b = (k == 1) := ⟨_, rfl⟩
  obtain ⟨q2, hq2⟩ : ∃ b, b = (k == 2) := ⟨_, rfl⟩
  obtain ⟨q3, hq3⟩ : ∃ b, b = (k == 3) := ⟨_, rfl⟩
  obtain ⟨q4, hq4⟩ : ∃ b, b = (k == 4) := ⟨_, rfl⟩
  have f1 := hq1.symm
  have f2 := hq2.symm
  have f3 := hq3.symm
  have f4 := hq4.symm
  have K1 := Aside0.mk hq1
  have K2 := Aside0.mk hq2
  have K3 := Aside0.mk hq3
  have K4 := Aside0.mk hq4
  clear hq1 hq2 hq3 hq4
  go_enter Try.func62, Try.ntmps62
  go_wp2
  go_quiet (fail)
  go_wp2
  all_goals
    go_ret
    refine ⟨?_, by repeat (first | exact Below.refl _ _ | apply pw_below_drewN | apply below_drew1 | apply below_alloc)⟩
    have h1 := K1.out
    have h2 := K2.out
    have h3 := K3.out
    have h4 := K4.out
    have g1 := H1.out
    have g2 := H2.out
    have g3 := H3.out
    clear K1 K2 K3 K4 H1 H2 H3
    clear hu hu1 hu2 hu3 hu4 e1 e2
    try clear e3
    simp_all [actW]
end Go.Proofs.Ytoeepmcaabmjkaa.QSN
namespace Go.Proofs.Ytoeepmcaabmjkaa.QSN
open Go.RowKit Go.Proofs.YtoeepmcaabmjkaaW.PrintWords Go.Proofs.YtoeepmcaabmjkaaW.PrintLast Go.Proofs.YtoeepmcaabmjkaaW.PrintMore
attribute [local go_sem] max2_int min2_int max_two min_two max_three min_three max_four min_four   -- for this text's walks alone
set_option linter.unusedVariables false
set_option linter.unusedSimpArgs false
mutual
def impl_treeOf.l0 : Nat → Int → List (S57) → Int → Int → List Int → List (List (S57)) → Option (Int)
  | 0, _, _, _, _, _, _ => none
  | k + 1, x5, x14, x15, x16, x247000, x247001 => if x16 < x15 then (if 0 ≤ x16 then (if x16 < (x14.length : Int) then (impl_treeOf.l1 k x5 x14 x15 x16 ((rd_T57 x14 x16).f2) (((rd_T57 x14 x16).f2).length : Int) 0 x247000 x247001) else (none)) else (none)) else (some x5)
def impl_treeOf.l1 : Nat → Int → List (S57) → Int → Int → List Int → Int → Int → List Int → List (List (S57)) → Option (Int)
  | 0, _, _, _, _, _, _, _, _, _ => none
  | k + 1, x5, x14, x15, x16, x21, x22, x23, x247000, x247001 => if x23 < x22 then (if 0 ≤ x23 then (if x23 < (x21.length : Int) then ((impl_treeOf.f k x247000 x247001 (rd x21 x23)).bind fun t251 => (impl_treeOf.l1 k (wrap64 (x5 + t251)) x14 x15 x16 x21 x22 (wrap64 (x23 + 1)) x247000 x247001)) else (none)) else (none)) else (impl_treeOf.l0 k x5 x14 x15 (wrap64 (x16 + 1)) x247000 x247001)
def impl_treeOf.f : Nat → List Int → List (List (S57)) → Int → Option (Int)
  | 0, _, _, _ => none
  | k + 1, l0_0, l0_1, a1 => if 0 ≤ a1 then (if a1 < (l0_1.length : Int) then (impl_treeOf.l0 k 1 (rd_L9 l0_1 a1) ((rd_L9 l0_1 a1).length : Int) 0 l0_0 l0_1) else (none)) else (none)
end
set_option maxHeartbeats 8000000 in
set_option maxRecDepth 100000 in
theorem impl_treeOf.calls (k : Nat) : ∀ (A0_0 : Option Addr) (c0_0 : Nat) (l0_0 : List Int) (A0_1 : Option Addr) (c0_1 : Nat) (l0_1 : List (List (S57))) (a1 : Int) (r : Int) (w : World) (hr0_0 : Kd.C (Kd.int .i64) w A0_0 l0_0.length l0_0) (hc0_0 : l0_0.length ≤ c0_0) (hr0_1 : Kd.C (Kd.slice 57 k57) w A0_1 l0_1.length l0_1) (hc0_1 : l0_1.length ≤ c0_1) (h : impl_treeOf.f k l0_0 l0_1 a1 = some r),
    Calls Try.prog 63 #[.agg #[.slice A0_0 l0_0.length c0_0, .slice A0_1 l0_1.length c0_1], .int .i64 a1] w fun e w' => e = .returned (.int .i64 r) ∧ Below w.heap.size w w' := by
  induction k using Nat.strongRecOn with
  | _ k ih =>
  intro A0_0 c0_0 l0_0 A0_1 c0_1 l0_1 a1 r w hr0_0 hc0_0 hr0_1 hc0_1 h
  cases k with
  | zero => exact absurd h (by simp [impl_treeOf.f])
  | succ k =>
  simp only [impl_treeOf.f] at h
  have hu36 := Try.underlying36
  have hu57 := Try.underlying57
  have HR0_0 := Aside0.mk hr0_0
  have HC0_0 := Aside0.mk hc0_0
  clear hr0_0 hc0_0
  have HR0_1 := Aside0.mk hr0_1
  have HC0_1 := Aside0.mk hc0_1
  clear hr0_1 hc0_1
  have HB := Aside0.mk (Below.refl w.heap.size w)
  have H : (if 0 ≤ a1 then (if a1 < (l0_1.length : Int) then (impl_treeOf.l0 k 1 (rd_L9 l0_1 a1) ((rd_L9 l0_1 a1).length : Int) 0 l0_0 l0_1) else (none)) else (none)) = some r := h
  clear h
  by_cases c3 : 0 ≤ a1
  · rw [if_pos c3] at H
    have c3b0 : decide (0 ≤ a1) = true := decide_eq_true c3
    clear c3
    by_cases c4 : a1 < (l0_1.length : Int)
    · rw [if_pos c4] at H
      have c4b0 : decide (a1 < (l0_1.length : Int)) = true := decide_eq_true c4
      clear c4
      have H' := Aside0.mk H
      clear H
      go_enter Try.func63, Try.ntmps63
      go_wp2_with (first | ((with_reducible refine gate_dst (N := 2) rfl ?_); refine box_event ?hg (N := 2) ?hd (cs := #[.slice A0_0 l0_0.length c0_0, .slice A0_1 l0_1.length c0_1]) (t := 36) ?hr ?_; (case hd => rfl); (case hg => rfl); (case hr => first | (go_simp; done) | (go_simp; rfl)); intro gb246 hg w5 hbox hb; have n0_ := Aside0.mk (below_step (by repeat (first | (with_reducible first | exact HB.out | apply below_alloc | apply pw_below_drewN | apply below_drew1) | exact HB.out)) hb); have n1_ := Aside0.mk (hbox); have n2_ := Aside0.mk ((by rw [hg]; exact (below_size (by repeat (first | (with_reducible first | exact HB.out | apply below_alloc | apply pw_below_drewN | apply below_drew1) | exact HB.out))) : w.heap.size ≤ gb246)); have n3_ := Aside0.mk ((by rw [hg]; exact (below_size (by repeat (first | (with_reducible first | exact HB.out | apply below_alloc | apply pw_below_drewN | apply below_drew1) | exact HB.out))) : w.heap.size ≤ gb246)); clear HB; have HB := n0_; have BK246 := n1_; have GW246 := n2_; have GE246 := n3_; clear n0_ n1_ n2_ n3_; clear hb hbox hg; have hcz6_0 : w5.cell? ⟨gb246, 0, none⟩ = some (.slice A0_0 l0_0.length c0_0) := (blk_cell BK246.out 0).trans rfl; have hcz6_1 : w5.cell? ⟨gb246, 1, none⟩ = some (.slice A0_1 l0_1.length c0_1) := (blk_cell BK246.out 1).trans rfl; have hfz6_0 := blk_frozen BK246.out 0; have hfz6_1 := blk_frozen BK246.out 1; have p247 : 0 ≤ (a1 : Int) := of_decide_eq_true (by first | (with_reducible assumption) | assumption); have q247 : a1 < (l0_1.length : Int) := of_decide_eq_true (by first | (with_reducible assumption) | assumption); obtain ⟨ad247, A247_0, c247_0, e247, hx247_0, hl247_0, hi247_0⟩ := at_L9 HR0_1.out a1 p247 q247; cases e247; replace hx247_0 := (HB.out.cell (World.block_lt_of_cell? w _ hx247_0)).trans hx247_0; have HR247_0 := Aside0.mk hi247_0; have HC247_0 := Aside0.mk hl247_0; clear hi247_0 hl247_0; replace p247 := eq_true p247; replace q247 := eq_true q247))
      go_loopg [5, 16] k (fun kq v5 v16 w' => ∃ (x5_1 : Int) (x16_1 : Int), v5 = .int .i64 x5_1 ∧ v16 = .int .i64 x16_1 ∧ Aside0 (impl_treeOf.l0 kq x5_1 (rd_L9 l0_1 a1) ((rd_L9 l0_1 a1).length : Int) x16_1 l0_0 l0_1 = some r) ∧ Aside0 (kq ≤ k) ∧ Aside0 (w'.heap[gb246]? = some (.cells #[(.slice A0_0 l0_0.length c0_0), (.slice (some ad247) l0_1.length c0_1)] 36 (0, 0))) ∧ Aside0 (Below w.heap.size w w'))
      case atStart => exact ⟨(1), (0), (by first | rfl | (simp; done) | (simp [*]; done)), (by first | rfl | (simp; done) | (simp [*]; done)), H', ⟨Nat.le_refl _⟩, ⟨by (with_reducible repeat (first | refine blk_drewN ?_ _ | refine blk_drew ?_ | refine blk_alloc ?_ _)); exact BK246.out⟩, ⟨by repeat (first | (with_reducible first | exact HB.out | apply below_alloc | apply pw_below_drewN | apply below_drew1 | refine below_set ?_ GE246.out) | exact HB.out)⟩⟩
      case round =>
        clear H'
        try clear c2
        try clear p2
        try clear q2
        try clear hx2
        try clear c3
        try clear c3b0
        try clear c4
        try clear c4b0
        try clear c6
        try clear hcz6_0
        try clear hcz6_1
        try clear hfz6_0
        try clear hfz6_1
        try clear hx247_0
        try clear p247
        try clear q247
        obtain ⟨x5_1, x16_1, rfl, rfl, HA, HK1, BK246, HB⟩ := hrel
        cases gk with
        | zero => exact absurd HA.out (by simp [impl_treeOf.l0])
        | succ k1 =>
          have H := HA.out
          clear HA
          simp only [impl_treeOf.l0] at H
          by_cases c7 : x16_1 < ((rd_L9 l0_1 a1).length : Int)
          · rw [if_pos c7] at H
            have c7b0 : decide (x16_1 < ((rd_L9 l0_1 a1).length : Int)) = true := decide_eq_true c7
            clear c7
            by_cases c8 : 0 ≤ x16_1
            · rw [if_pos c8] at H
              have c8b0 : decide (0 ≤ x16_1) = true := decide_eq_true c8
              clear c8
              by_cases c9 : x16_1 < ((rd_L9 l0_1 a1).length : Int)
              · rw [if_pos c9] at H
                have c9b0 : decide (x16_1 < ((rd_L9 l0_1 a1).length : Int)) = true := decide_eq_true c9
                clear c9
                have H' := Aside0.mk H
                clear H
                have p248 : 0 ≤ (x16_1 : Int) := of_decide_eq_true (by first | (with_reducible assumption) | assumption)
                have q248 : x16_1 < ((rd_L9 l0_1 a1).length : Int) := of_decide_eq_true (by first | (with_reducible assumption) | assumption)
                obtain ⟨ad248, A248_1, c248_1, A248_2, c248_2, e248, hx248_0, hx248_1, hx248_2, hx248_3, hl248_1, hi248_1, hl248_2, hi248_2⟩ := at_T57 HR247_0.out x16_1 p248 q248
                cases e248
                replace hx248_0 := (HB.out.cell (World.block_lt_of_cell? w _ hx248_0)).trans hx248_0
                replace hx248_1 := (HB.out.cell (World.block_lt_of_cell? w _ hx248_1)).trans hx248_1
                replace hx248_2 := (HB.out.cell (World.block_lt_of_cell? w _ hx248_2)).trans hx248_2
                replace hx248_3 := (HB.out.cell (World.block_lt_of_cell? w _ hx248_3)).trans hx248_3
                have HR248_1 := Aside0.mk hi248_1
                have HC248_1 := Aside0.mk hl248_1
                clear hi248_1 hl248_1
                have HR248_2 := Aside0.mk hi248_2
                have HC248_2 := Aside0.mk hl248_2
                clear hi248_2 hl248_2
                replace p248 := eq_true p248
                replace q248 := eq_true q248
                go_wp2_with (first | ((with_reducible refine gate_dst (N := 7) rfl ?_); refine box_event ?hg (N := 7) ?hd (cs := #[.int .i64 0, .slice none 0 0, .slice none 0 0, .int .i64 0]) (t := 57) ?hr ?_; (case hd => rfl); (case hg => rfl); (case hr => first | (go_simp; done) | (go_simp; rfl)); intro gb249 hg w10 hbox hb; have n0_ := Aside0.mk (blk_below (g := gb246) (o := .cells #[.slice A0_0 l0_0.length c0_0, .slice (some ad247) l0_1.length c0_1] 36 (0, 0)) (by (with_reducible repeat (first | refine blk_drewN ?_ _ | refine blk_drew ?_ | refine blk_alloc ?_ _)); exact BK246.out) hb); have n1_ := Aside0.mk (below_step (by repeat (first | (with_reducible first | exact HB.out | apply below_alloc | apply pw_below_drewN | apply below_drew1 | refine below_set ?_ GE246.out) | exact HB.out)) hb); have n2_ := Aside0.mk (hbox); have n3_ := Aside0.mk ((by rw [hg]; exact (below_size (by repeat (first | (with_reducible first | exact HB.out | apply below_alloc | apply pw_below_drewN | apply below_drew1 | refine below_set ?_ GE246.out) | exact HB.out))) : w.heap.size ≤ gb249)); have n4_ := Aside0.mk ((by rw [hg]; exact (below_size (by repeat (first | (with_reducible first | exact HB.out | apply below_alloc | apply pw_below_drewN | apply below_drew1 | refine below_set ?_ GE246.out) | exact HB.out))) : w.heap.size ≤ gb249)); have n5_ := Aside0.mk ((by rw [hg]; exact Nat.ne_of_lt (blk_lt (g := gb246) (o := .cells #[.slice A0_0 l0_0.length c0_0, .slice (some ad247) l0_1.length c0_1] 36 (0, 0)) (by (with_reducible repeat (first | refine blk_drewN ?_ _ | refine blk_drew ?_ | refine blk_alloc ?_ _)); exact BK246.out)) : gb246 ≠ gb249)); have n6_ := Aside0.mk ((by rw [hg]; exact Nat.ne_of_gt (blk_lt (g := gb246) (o := .cells #[.slice A0_0 l0_0.length c0_0, .slice (some ad247) l0_1.length c0_1] 36 (0, 0)) (by (with_reducible repeat (first | refine blk_drewN ?_ _ | refine blk_drew ?_ | refine blk_alloc ?_ _)); exact BK246.out)) : gb249 ≠ gb246)); clear BK246; clear HB; have BK246 := n0_; have HB := n1_; have BK249 := n2_; have GW249 := n3_; have GE249 := n4_; have NB246_249 := n5_; have NB249_246 := n6_; clear n0_ n1_ n2_ n3_ n4_ n5_ n6_; clear hb hbox hg; have hnb11 := NB249_246.out; have hnc11 := NB246_249.out; have hcz12_0 : w10.cell? ⟨gb249, 0, none⟩ = some (.int .i64 0) := (blk_cell BK249.out 0).trans rfl; have hcz12_1 : w10.cell? ⟨gb249, 1, none⟩ = some (.slice none 0 0) := (blk_cell BK249.out 1).trans rfl; have hcz12_2 : w10.cell? ⟨gb249, 2, none⟩ = some (.slice none 0 0) := (blk_cell BK249.out 2).trans rfl; have hcz12_3 : w10.cell? ⟨gb249, 3, none⟩ = some (.int .i64 0) := (blk_cell BK249.out 3).trans rfl; have hfz12_0 := blk_frozen BK249.out 0; have hfz12_1 := blk_frozen BK249.out 1; have hfz12_2 := blk_frozen BK249.out 2; have hfz12_3 := blk_frozen BK249.out 3))
                go_loopg [5, 23] k1 (fun kq v5 v23 w' => ∃ (x5_2 : Int) (x23_2 : Int), v5 = .int .i64 x5_2 ∧ v23 = .int .i64 x23_2 ∧ Aside0 (impl_treeOf.l1 kq x5_2 (rd_L9 l0_1 a1) ((rd_L9 l0_1 a1).length : Int) x16_1 ((rd_T57 (rd_L9 l0_1 a1) x16_1).f2) (((rd_T57 (rd_L9 l0_1 a1) x16_1).f2).length : Int) x23_2 l0_0 l0_1 = some r) ∧ Aside0 (kq ≤ k1) ∧ Aside0 (w'.heap[gb246]? = some (.cells #[(.slice A0_0 l0_0.length c0_0), (.slice (some ad247) l0_1.length c0_1)] 36 (0, 0))) ∧ Aside0 (w'.heap[gb249]? = some (.cells #[.int .i64 ((rd_T57 (rd_L9 l0_1 a1) x16_1).f0), (.slice A248_1 ((rd_T57 (rd_L9 l0_1 a1) x16_1).f1).length c248_1), (.slice A248_2 ((rd_T57 (rd_L9 l0_1 a1) x16_1).f2).length c248_2), .int .i64 ((rd_T57 (rd_L9 l0_1 a1) x16_1).f3)] 57 (0, 0))) ∧ Aside0 (Below w.heap.size w w'))
                case atStart => exact ⟨(x5_1), (0), (by first | rfl | (simp; done) | (simp [*]; done)), (by first | rfl | (simp; done) | (simp [*]; done)), H', ⟨Nat.le_refl _⟩, ⟨by (with_reducible repeat (first | refine blk_drewN ?_ _ | refine blk_drew ?_ | refine blk_alloc ?_ _)); refine blk_far ?_ NB246_249.out _; (with_reducible repeat (first | refine blk_drewN ?_ _ | refine blk_drew ?_ | refine blk_alloc ?_ _)); refine blk_far ?_ NB246_249.out _; (with_reducible repeat (first | refine blk_drewN ?_ _ | refine blk_drew ?_ | refine blk_alloc ?_ _)); refine blk_far ?_ NB246_249.out _; (with_reducible repeat (first | refine blk_drewN ?_ _ | refine blk_drew ?_ | refine blk_alloc ?_ _)); refine blk_far ?_ NB246_249.out _; (with_reducible repeat (first | refine blk_drewN ?_ _ | refine blk_drew ?_ | refine blk_alloc ?_ _)); exact BK246.out⟩, ⟨by (with_reducible repeat (first | refine blk_drewN ?_ _ | refine blk_drew ?_ | refine blk_alloc ?_ _)); refine blk_put (cs := #[.int .i64 ((rd_T57 (rd_L9 l0_1 a1) x16_1).f0), .slice A248_1 ((rd_T57 (rd_L9 l0_1 a1) x16_1).f1).length c248_1, .slice A248_2 ((rd_T57 (rd_L9 l0_1 a1) x16_1).f2).length c248_2, .int .i64 0]) ?_ 3 _ rfl; (with_reducible repeat (first | refine blk_drewN ?_ _ | refine blk_drew ?_ | refine blk_alloc ?_ _)); refine blk_put (cs := #[.int .i64 ((rd_T57 (rd_L9 l0_1 a1) x16_1).f0), .slice A248_1 ((rd_T57 (rd_L9 l0_1 a1) x16_1).f1).length c248_1, .slice none 0 0, .int .i64 0]) ?_ 2 _ rfl; (with_reducible repeat (first | refine blk_drewN ?_ _ | refine blk_drew ?_ | refine blk_alloc ?_ _)); refine blk_put (cs := #[.int .i64 ((rd_T57 (rd_L9 l0_1 a1) x16_1).f0), .slice none 0 0, .slice none 0 0, .int .i64 0]) ?_ 1 _ rfl; (with_reducible repeat (first | refine blk_drewN ?_ _ | refine blk_drew ?_ | refine blk_alloc ?_ _)); refine blk_put (cs := #[.int .i64 0, .slice none 0 0, .slice none 0 0, .int .i64 0]) ?_ 0 _ rfl; (with_reducible repeat (first | refine blk_drewN ?_ _ | refine blk_drew ?_ | refine blk_alloc ?_ _)); exact BK249.out⟩, ⟨by repeat (first | (with_reducible first | exact HB.out | apply below_alloc | apply pw_below_drewN | apply below_drew1 | refine below_set ?_ GE246.out | refine below_set ?_ GE249.out) | exact HB.out)⟩⟩
                case round =>
                  clear H'
                  try clear c1
                  try clear c2
                  try clear p2
                  try clear q2
                  try clear hx2
                  try clear c3
                  try clear c3b0
                  try clear c4
                  try clear c4b0
                  try clear c6
                  try clear c7
                  try clear c7b0
                  try clear c8
                  try clear c8b0
                  try clear c9
                  try clear c9b0
                  try clear c11
                  try clear hcz12_0
                  try clear hcz12_1
                  try clear hcz12_2
                  try clear hcz12_3
                  try clear hcz6_0
                  try clear hcz6_1
                  try clear hfz12_0
                  try clear hfz12_1
                  try clear hfz12_2
                  try clear hfz12_3
                  try clear hfz6_0
                  try clear hfz6_1
                  try clear hx247_0
                  try clear hx248_0
                  try clear hx248_1
                  try clear hx248_2
                  try clear hx248_3
                  try clear p2
                  try clear p247
                  try clear p248
                  try clear q2
                  try clear q247
                  try clear q248
                  obtain ⟨x5_2, x23_2, rfl, rfl, HA, HK2, BK246, BK249, HB⟩ := hrel
                  cases gk with
                  | zero => exact absurd HA.out (by simp [impl_treeOf.l1])
                  | succ k2 =>
                    have H := HA.out
                    clear HA
                    simp only [impl_treeOf.l1] at H
                    by_cases c13 : x23_2 < (((rd_T57 (rd_L9 l0_1 a1) x16_1).f2).length : Int)
                    · rw [if_pos c13] at H
                      have c13b0 : decide (x23_2 < (((rd_T57 (rd_L9 l0_1 a1) x16_1).f2).length : Int)) = true := decide_eq_true c13
                      clear c13
                      by_cases c14 : 0 ≤ x23_2
                      · rw [if_pos c14] at H
                        have c14b0 : decide (0 ≤ x23_2) = true := decide_eq_true c14
                        clear c14
                        by_cases c15 : x23_2 < (((rd_T57 (rd_L9 l0_1 a1) x16_1).f2).length : Int)
                        · rw [if_pos c15] at H
                          have c15b0 : decide (x23_2 < (((rd_T57 (rd_L9 l0_1 a1) x16_1).f2).length : Int)) = true := decide_eq_true c15
                          clear c15
                          replace H := Option.bind_eq_some_iff.mp H
                          obtain ⟨t251, A160, H⟩ := H
                          replace H : (impl_treeOf.l1 k2 (wrap64 (x5_2 + t251)) (rd_L9 l0_1 a1) ((rd_L9 l0_1 a1).length : Int) x16_1 ((rd_T57 (rd_L9 l0_1 a1) x16_1).f2) (((rd_T57 (rd_L9 l0_1 a1) x16_1).f2).length : Int) (wrap64 (x23_2 + 1)) l0_0 l0_1) = some r := H
                          have A16 := Aside0.mk A160
                          clear A160
                          have H' := Aside0.mk H
                          clear H
                          have p250 : 0 ≤ (x23_2 : Int) := of_decide_eq_true (by first | (with_reducible assumption) | assumption)
                          have q250 : x23_2 < (((rd_T57 (rd_L9 l0_1 a1) x16_1).f2).length : Int) := of_decide_eq_true (by first | (with_reducible assumption) | assumption)
                          obtain ⟨ad250, e250, hx250_0⟩ := Kd.at_int HR248_2.out x23_2 p250 q250
                          cases e250
                          replace hx250_0 := (HB.out.cell (World.block_lt_of_cell? w _ hx250_0)).trans hx250_0
                          replace p250 := eq_true p250
                          replace q250 := eq_true q250
                          have hnb17 := NB246_249.out
                          have hnc17 := NB249_246.out
                          have hcz18_0 : wr.cell? ⟨gb246, 0, none⟩ = some (.slice A0_0 l0_0.length c0_0) := (blk_cell BK246.out 0).trans rfl
                          have hcz18_1 : wr.cell? ⟨gb246, 1, none⟩ = some (.slice (some ad247) l0_1.length c0_1) := (blk_cell BK246.out 1).trans rfl
                          have hfz18_0 := blk_frozen BK246.out 0
                          have hfz18_1 := blk_frozen BK246.out 1
                          go_wp2_with (first | ((with_reducible refine gate_callee (f := 63) rfl ?_); refine goesL_ (some 30) rfl rfl Try.func63 (by kernel_rfl) rfl #[.agg #[.slice A0_0 l0_0.length c0_0, .slice (some ad247) l0_1.length c0_1], .int .i64 (rd ((rd_T57 (rd_L9 l0_1 a1) x16_1).f2) x23_2)] rfl (by (try simp only [List.map_toArray, List.map_cons, List.map_nil]); first | done | rfl | (simp only [List.length_drop, List.length_take]; rfl)) ?_; (with_reducible refine (ih k2 (by have := HK1.out; have := HK2.out; omega) _ _ l0_0 _ _ l0_1 (rd ((rd_T57 (rd_L9 l0_1 a1) x16_1).f2) x23_2) t251 _ ?side1 ?side2 ?side3 ?side4 A16.out).mono ?_); (case side1 => repeat (first | exact (Kd.C_below HR0_0.out HB.out) | (with_reducible refine Kd.C_alloc ?_ _) | (with_reducible refine Kd.C_drewN ?_ _) | (with_reducible refine Kd.C_drew ?_))); (case side2 => exact HC0_0.out); (case side3 => repeat (first | exact (Kd.C_below HR0_1.out HB.out) | (with_reducible refine Kd.C_alloc ?_ _) | (with_reducible refine Kd.C_drewN ?_ _) | (with_reducible refine Kd.C_drew ?_))); (case side4 => exact HC0_1.out); rintro e w19 ⟨rfl, hb⟩; refine ⟨_, rfl, ?_⟩; have n0_ := Aside0.mk (blk_below (g := gb246) (o := .cells #[.slice A0_0 l0_0.length c0_0, .slice (some ad247) l0_1.length c0_1] 36 (0, 0)) (by (with_reducible repeat (first | refine blk_drewN ?_ _ | refine blk_drew ?_ | refine blk_alloc ?_ _)); exact BK246.out) hb); have n1_ := Aside0.mk (blk_below (g := gb249) (o := .cells #[.int .i64 ((rd_T57 (rd_L9 l0_1 a1) x16_1).f0), .slice A248_1 ((rd_T57 (rd_L9 l0_1 a1) x16_1).f1).length c248_1, .slice (some ad250) ((rd_T57 (rd_L9 l0_1 a1) x16_1).f2).length c248_2, .int .i64 ((rd_T57 (rd_L9 l0_1 a1) x16_1).f3)] 57 (0, 0)) (by (with_reducible repeat (first | refine blk_drewN ?_ _ | refine blk_drew ?_ | refine blk_alloc ?_ _)); exact BK249.out) hb); have n2_ := Aside0.mk (below_step (by repeat (first | (with_reducible first | exact HB.out | apply below_alloc | apply pw_below_drewN | apply below_drew1 | refine below_set ?_ GE246.out | refine below_set ?_ GE249.out) | exact HB.out)) hb); clear BK246; clear BK249; clear HB; have BK246 := n0_; have BK249 := n1_; have HB := n2_; clear n0_ n1_ n2_; (try clear hb); (try clear hb2); (try clear hk); (try clear hi)))
                          go_roundg k2
                          case measure => have := HK1.out; have := HK2.out; omega
                          case rel => exact ⟨(wrap64 (x5_2 + t251)), (wrap64 (x23_2 + 1)), (by first | rfl | (simp; done) | (simp [*]; done)), (by first | rfl | (simp; done) | (simp [*]; done)), H', ⟨by have := HK1.out; have := HK2.out; omega⟩, ⟨by (with_reducible repeat (first | refine blk_drewN ?_ _ | refine blk_drew ?_ | refine blk_alloc ?_ _)); exact BK246.out⟩, ⟨by (with_reducible repeat (first | refine blk_drewN ?_ _ | refine blk_drew ?_ | refine blk_alloc ?_ _)); exact BK249.out⟩, ⟨by repeat (first | (with_reducible first | exact HB.out | apply below_alloc | apply pw_below_drewN | apply below_drew1 | refine below_set ?_ GE246.out | refine below_set ?_ GE249.out) | exact HB.out)⟩⟩
                        · rw [if_neg c15] at H
                          exact absurd H (by simp)
                      · rw [if_neg c14] at H
                        exact absurd H (by simp)
                    · rw [if_neg c13] at H
                      have c13b0 : decide (x23_2 < (((rd_T57 (rd_L9 l0_1 a1) x16_1).f2).length : Int)) = false := decide_eq_false c13
                      clear c13
                      have H' := Aside0.mk H
                      clear H
                      go_wp2
                      go_roundg k2
                      case measure => have := HK1.out; have := HK2.out; omega
                      case rel => exact ⟨(x5_2), (wrap64 (x16_1 + 1)), (by first | rfl | (simp; done) | (simp [*]; done)), (by first | rfl | (simp; done) | (simp [*]; done)), H', ⟨by have := HK1.out; have := HK2.out; omega⟩, ⟨by (with_reducible repeat (first | refine blk_drewN ?_ _ | refine blk_drew ?_ | refine blk_alloc ?_ _)); exact BK246.out⟩, ⟨by repeat (first | (with_reducible first | exact HB.out | apply below_alloc | apply pw_below_drewN | apply below_drew1 | refine below_set ?_ GE246.out | refine below_set ?_ GE249.out) | exact HB.out)⟩⟩
              · rw [if_neg c9] at H
                exact absurd H (by simp)
            · rw [if_neg c8] at H
              exact absurd H (by simp)
          · rw [if_neg c7] at H
            have c7b0 : decide (x16_1 < ((rd_L9 l0_1 a1).length : Int)) = false := decide_eq_false c7
            clear c7
            obtain rfl := Option.some.inj H
            go_wp2
            go_ret
            exact ⟨by first | rfl | (simp [errW_none, errW_some] <;> rfl) | (simp [*, errW_none, errW_some] <;> rfl), by repeat (first | (with_reducible first | exact HB.out | apply below_alloc | apply pw_below_drewN | apply below_drew1 | refine below_set ?_ GE246.out) | exact HB.out)⟩
    · rw [if_neg c4] at H
      exact absurd H (by simp)
  · rw [if_neg c3] at H
    exact absurd H (by simp)
end Go.Proofs.Ytoeepmcaabmjkaa.QSN
namespace Go.Proofs.Ytoeepmcaabmjkaa.QSN
open Go.RowKit Go.Proofs.YtoeepmcaabmjkaaW.PrintWords Go.Proofs.YtoeepmcaabmjkaaW.PrintLast Go.Proofs.YtoeepmcaabmjkaaW.PrintMore
attribute [local go_sem] max2_int min2_int max_two min_two max_three min_three max_four min_four   -- for this text's walks alone
set_option linter.unusedVariables false
set_option linter.unusedSimpArgs false
def innerF (k : Nat) (cells body bodies : Int) : List S57 → Option Bool
  | [] => some true
  | a :: l => (impl_actOk.f k a.f0 a.f1 a.f2 a.f3 cells body bodies).bind fun b => if b = true then innerF k cells body bodies l else some false
def outerF (k : Nat) (cells bodies : Int) : Nat → List (List S57) → Option Bool
  | _, [] => some true
  | i, l :: ls => if l.length > 4 then some false else (innerF k cells (i : Int) bodies l).bind fun b => if b = true then outerF k cells bodies (i + 1) ls else some false
def impl_ProgOk.f (k : Nat) (l0_0 : List Int) (l0_1 : List (List (S57))) : Option Bool :=
  if l0_0.length > 3 then some false else (impl_allNums.f k l0_0).bind fun b => if b = true then (if l0_1.length < 1 ∨ 4 < l0_1.length then some false else (outerF k (l0_0.length : Int) (l0_1.length : Int) 0 l0_1).bind fun b => if b = true then (impl_treeOf.f k l0_0 l0_1 0).bind fun t => some (decide (t ≤ 7)) else some false) else some false
theorem C_rows {w : World} {A : Option Addr} {n : Nat} {xs : List (List S57)} (h : Kd.C (Kd.slice 57 k57) w A n xs) (i : Nat) (hi : i < n) : ∃ ad A1 c1 l, A = some ad ∧ xs[i]? = some l ∧ w.cell? (ad.add i) = some (.slice A1 l.length c1) ∧ l.length ≤ c1 ∧ Kd.C k57 w A1 l.length l := by
  have hn := h.1
  obtain ⟨ad, c, e, _, hK, hc0⟩ := Kd.C_get h [] (i : Int) (by omega) (by omega)
  obtain ⟨A1, c1, rfl, l1, g1⟩ := hK
  have hx : xs[i]? = some (xs.getD (i : Int).toNat []) := by
    rw [List.getD_eq_getElem?_getD, Int.toNat_natCast, List.getElem?_eq_getElem (show i < xs.length by omega)]
    rfl
  refine ⟨ad, A1, c1, _, e, hx, ?_, l1, g1⟩
  have := hc0 0 _ rfl
  rw [show (Kd.slice 57 k57).sz = 1 from rfl, Nat.mul_one, Nat.add_zero, Int.toNat_natCast] at this
  exact this
set_option maxHeartbeats 8000000 in
set_option maxRecDepth 100000 in
theorem impl_ProgOk.calls (k : Nat) (A0_0 : Option Addr) (c0_0 : Nat) (l0_0 : List Int) (A0_1 : Option Addr) (c0_1 : Nat) (l0_1 : List (List (S57))) (r : Bool) (w : World) (hr0_0 : Kd.C (Kd.int .i64) w A0_0 l0_0.length l0_0) (hc0_0 : l0_0.length ≤ c0_0) (hr0_1 : Kd.C (Kd.slice 57 k57) w A0_1 l0_1.length l0_1) (hc0_1 : l0_1.length ≤ c0_1) (h : impl_ProgOk.f k l0_0 l0_1 = some r) :
    Calls Try.prog 26 #[.agg #[.slice A0_0 l0_0.length c0_0, .slice A0_1 l0_1.length c0_1]] w fun e w' => e = .returned (.bool r) ∧ Below w.heap.size w w' := by
  have hu1 := Try.underlying36
  have hu2 := Try.underlying57
  have hu3 := Try.underlying34
  have hu4 := Try.underlying54
  have HR0 := Aside0.mk hr0_0
  have HC0 := Aside0.mk hc0_0
  have HR1 := Aside0.mk hr0_1
  have HC1 := Aside0.mk hc0_1
  clear hr0_0 hc0_0 hr0_1 hc0_1
  have HM := Aside0.mk (show l0_1.length ≤ 9223372036854775807 from HR1.out.2.1)
  unfold impl_ProgOk.f at h
  obtain ⟨w1, hw1⟩ : ∃ w1, w1 = w.alloc (.cells #[.slice A0_0 l0_0.length c0_0, .slice A0_1 l0_1.length c0_1] 36) := ⟨_, rfl⟩
  have HBX := Aside0.mk (show w1.heap[w.heap.size]? = some (.cells #[.slice A0_0 l0_0.length c0_0, .slice A0_1 l0_1.length c0_1] 36 (0, 0)) by rw [hw1]; exact heap_alloc_new w _)
  have HB := Aside0.mk (show Below w.heap.size w w1 by rw [hw1]; exact below_alloc (Below.refl _ _) _)
  go_enter Try.func26, Try.ntmps26
  go_upto_region 1 with (fail)
  rw [← hw1]
  clear hw1
  have xb0 : w1.cell? ⟨w.heap.size, 0, none⟩ = some (.slice A0_0 l0_0.length c0_0) := (blk_cell HBX.out 0).trans rfl
  have xb1 : w1.cell? ⟨w.heap.size, 1, none⟩ = some (.slice A0_1 l0_1.length c0_1) := (blk_cell HBX.out 1).trans rfl
  by_cases q0 : l0_0.length > 3
  · rw [if_pos q0] at h
    obtain rfl : false = r := by simpa using h
    have d0 : decide ((l0_0.length : Int) > 3) = true := decide_eq_true (by omega)
    have d0' : decide ((3 : Int) < (l0_0.length : Int)) = true := d0
    have d0'' : decide (3 < l0_0.length) = true := decide_eq_true q0
    clear q0 h
    go_wp2
    go_ret
    exact ⟨rfl, HB.out⟩
  rw [if_neg q0] at h
  have d0 : decide ((l0_0.length : Int) > 3) = false := decide_eq_false (by omega)
  have d0' : decide ((3 : Int) < (l0_0.length : Int)) = false := d0
  have d0'' : decide (3 < l0_0.length) = false := decide_eq_false q0
  clear q0
  obtain ⟨b, hb, h⟩ := Option.bind_eq_some_iff.1 h
  have H1 := Aside0.mk hb
  clear hb
  cases b with
  | false =>
    obtain rfl : false = r := by simpa using h
    clear h
    go_wp2_with fail
    refine (impl_allNums.calls k A0_0 c0_0 l0_0 false _ (Kd.C_below HR0.out HB.out) HC0.out H1.out).mono ?_
    rintro e w2 ⟨rfl, hd⟩
    obtain ⟨nd, rfl⟩ := hd.out
    go_wp2
    go_ret
    exact ⟨rfl, pw_below_drewN HB.out _⟩
  | true =>
  rw [if_pos rfl] at h
  go_wp2_with fail
  refine (impl_allNums.calls k A0_0 c0_0 l0_0 true _ (Kd.C_below HR0.out HB.out) HC0.out H1.out).mono ?_
  rintro e w2 ⟨rfl, hd⟩
  clear H1
  have HB2 := Aside0.mk (show Below w.heap.size w w2 by obtain ⟨nd, rfl⟩ := hd.out; exact pw_below_drewN HB.out _)
  have HBX2 := Aside0.mk (show w2.heap[w.heap.size]? = some (.cells #[.slice A0_0 l0_0.length c0_0, .slice A0_1 l0_1.length c0_1] 36 (0, 0)) by obtain ⟨nd, rfl⟩ := hd.out; exact HBX.out)
  clear hd xb0 xb1 HB HBX
  have xb0 : w2.cell? ⟨w.heap.size, 0, none⟩ = some (.slice A0_0 l0_0.length c0_0) := (blk_cell HBX2.out 0).trans rfl
  have xb1 : w2.cell? ⟨w.heap.size, 1, none⟩ = some (.slice A0_1 l0_1.length c0_1) := (blk_cell HBX2.out 1).trans rfl
  by_cases q1 : l0_1.length < 1 ∨ 4 < l0_1.length
  · rw [if_pos q1] at h
    obtain rfl : false = r := by simpa using h
    clear h
    by_cases q2 : l0_1.length < 1
    · have d1 : decide ((l0_1.length : Int) < 1) = true := decide_eq_true (by omega)
      have d1' : decide (l0_1.length < 1) = true := decide_eq_true q2
      clear q1 q2
      go_wp2
      go_ret
      exact ⟨rfl, HB2.out⟩
    · have d1 : decide ((l0_1.length : Int) < 1) = false := decide_eq_false (by omega)
      have d1' : decide (l0_1.length < 1) = false := decide_eq_false q2
      have d2 : decide ((l0_1.length : Int) > 4) = true := decide_eq_true (by omega)
      have d2' : decide ((4 : Int) < (l0_1.length : Int)) = true := d2
      have d2'' : decide (4 < l0_1.length) = true := decide_eq_true (by omega)
      clear q1 q2
      go_wp2
      go_ret
      exact ⟨rfl, HB2.out⟩
  rw [if_neg q1] at h
  have d1 : decide ((l0_1.length : Int) < 1) = false := decide_eq_false (by omega)
  have d1' : decide (l0_1.length < 1) = false := decide_eq_false (by omega)
  have d2 : decide ((l0_1.length : Int) > 4) = false := decide_eq_false (by omega)
  have d2' : decide ((4 : Int) < (l0_1.length : Int)) = false := d2
  have d2'' : decide (4 < l0_1.length) = false := decide_eq_false (by omega)
  clear q1
  have H2 := Aside0.mk h
  clear h
  go_wp2
  go_loopw [30] (fun v30 wr => ∃ x : Int, v30 = .int .i64 x ∧ Aside0 (0 ≤ x ∧ x ≤ (l0_1.length : Nat)) ∧ Aside0 ((outerF k (l0_0.length : Int) (l0_1.length : Int) x.toNat (l0_1.drop x.toNat)).bind (fun b => if b = true then (impl_treeOf.f k l0_0 l0_1 0).bind fun t => some (decide (t ≤ 7)) else some false) = some r) ∧ Aside0 (Below w.heap.size w wr) ∧ Aside0 (wr.heap[w.heap.size]? = some (.cells #[.slice A0_0 l0_0.length c0_0, .slice A0_1 l0_1.length c0_1] 36 (0, 0)))) (fun v30 _ => l0_1.length - (intOf v30).toNat)
  case atStart => exact ⟨0, rfl, ⟨by omega, by omega⟩, H2, HB2, HBX2⟩
  case round =>
    clear HB2 HBX2 H2 xb0 xb1
    obtain ⟨x, rfl, HX, HH, HB, HBX⟩ := hrel
    obtain ⟨wo, rfl⟩ : ∃ wo, wo = wr := ⟨_, rfl⟩
    have xb0 : wo.cell? ⟨w.heap.size, 0, none⟩ = some (.slice A0_0 l0_0.length c0_0) := (blk_cell HBX.out 0).trans rfl
    have xb1 : wo.cell? ⟨w.heap.size, 1, none⟩ = some (.slice A0_1 l0_1.length c0_1) := (blk_cell HBX.out 1).trans rfl
    by_cases c0 : x < ((l0_1.length : Nat) : Int)
    · have c0b : decide (x < ((l0_1.length : Nat) : Int)) = true := decide_eq_true c0
      have hx0 := HX.out.1
      obtain ⟨ad, B1, c1, l, ea, hl, hxc, hlc, hlr⟩ := C_rows (Kd.C_below HR1.out HB.out) x.toNat (by omega)
      cases ea
      have HLC := Aside0.mk hlc
      have HLR := Aside0.mk hlr
      have HLM := Aside0.mk (show l.length ≤ 9223372036854775807 from hlr.2.1)
      clear hlc hlr
      have H := HH.out
      clear HH
      have hdrop : l0_1.drop x.toNat = l :: l0_1.drop (x.toNat + 1) := by
        obtain ⟨hlt, rfl⟩ := List.getElem?_eq_some_iff.1 hl
        exact List.drop_eq_getElem_cons hlt
      rw [hdrop, outerF] at H
      clear hdrop hl
      have HP := Aside0.mk c0
      have p0 := eq_true hx0
      have p1 := eq_true c0
      clear c0 hx0
      by_cases q2 : l.length > 4
      · rw [if_pos q2] at H
        obtain rfl : false = r := by simpa using H
        have m1 : decide ((l.length : Int) > 4) = true := decide_eq_true (by omega)
        have m2 : decide ((4 : Int) < (l.length : Int)) = true := m1
        have m3 : decide (4 < l.length) = true := decide_eq_true q2
        clear q2 H
        go_wp2
        go_ret
        exact ⟨rfl, HB.out⟩
      · rw [if_neg q2] at H
        have m1 : decide ((l.length : Int) > 4) = false := decide_eq_false (by omega)
        have m2 : decide ((4 : Int) < (l.length : Int)) = false := m1
        have m3 : decide (4 < l.length) = false := decide_eq_false q2
        clear q2
        have ex : ((x.toNat : Nat) : Int) = x := by have := HX.out.1; omega
        rw [ex] at H
        have EX := Aside0.mk ex
        clear ex
        obtain ⟨g, hg⟩ : ∃ g : Bool → Option Bool, g = fun b => ((if b = true then outerF k (l0_0.length : Int) (l0_1.length : Int) (x.toNat + 1) (l0_1.drop (x.toNat + 1)) else some false).bind (fun b => if b = true then (impl_treeOf.f k l0_0 l0_1 0).bind fun t => some (decide (t ≤ 7)) else some false)) := ⟨_, rfl⟩
        have HG := Aside0.mk hg
        have H2 := Aside0.mk (show (innerF k (l0_0.length : Int) x (l0_1.length : Int) (l.drop (0 : Int).toNat)).bind g = some r by rw [hg]; rw [Option.bind_assoc] at H; exact H)
        clear H hg
        go_wp2
        go_loopw [40] (fun v40 wi => ∃ y : Int, v40 = .int .i64 y ∧ Aside0 (0 ≤ y ∧ y ≤ (l.length : Nat)) ∧ Aside0 ((innerF k (l0_0.length : Int) x (l0_1.length : Int) (l.drop y.toNat)).bind g = some r) ∧ Aside0 (Below wo.heap.size wo wi) ∧ Aside0 (wi.heap[w.heap.size]? = some (.cells #[.slice A0_0 l0_0.length c0_0, .slice (some ad) l0_1.length c0_1] 36 (0, 0)))) (fun v40 _ => l.length - (intOf v40).toNat)
        case atStart => exact ⟨0, rfl, ⟨by omega, by omega⟩, H2, ⟨Below.refl _ _⟩, HBX⟩
        case round =>
          clear H2 xb0 xb1 HBX
          obtain ⟨y, rfl, HY, HI, HBi, HBX⟩ := hrel
          have xb0 : wr.cell? ⟨w.heap.size, 0, none⟩ = some (.slice A0_0 l0_0.length c0_0) := (blk_cell HBX.out 0).trans rfl
          have xb1 : wr.cell? ⟨w.heap.size, 1, none⟩ = some (.slice (some ad) l0_1.length c0_1) := (blk_cell HBX.out 1).trans rfl
          by_cases e0 : y < ((l.length : Nat) : Int)
          · have e0b : decide (y < ((l.length : Nat) : Int)) = true := decide_eq_true e0
            have hy0 := HY.out.1
            obtain ⟨ad2, D1, d1, D2, d2, ea2, hya, hyb, hyc, hyd, hle1, hre1, hle2, hre2⟩ := at_T57 (Kd.C_below HLR.out HBi.out) y hy0 e0
            cases ea2
            obtain ⟨a, ha⟩ : ∃ a, a = rd_T57 l y := ⟨_, rfl⟩
            rw [← ha] at hya hyb hyc hyd hle1 hre1 hle2 hre2
            have hdrop : l.drop y.toNat = a :: l.drop (y.toNat + 1) := by
              have hlt : y.toNat < l.length := by omega
              rw [List.drop_eq_getElem_cons hlt, ha]
              simp [rd_T57, List.getD, hlt]
            have H := HI.out
            clear HI ha
            rw [hdrop, innerF, Option.bind_assoc] at H
            clear hdrop
            obtain ⟨b, hb, H⟩ := Option.bind_eq_some_iff.1 H
            have HAC := Aside0.mk hb
            have HN := Aside0.mk H
            have HR1 := Aside0.mk hre1
            have HR2 := Aside0.mk hre2
            have HL1 := Aside0.mk hle1
            have HL2 := Aside0.mk hle2
            have HPy := Aside0.mk e0
            have p2 := eq_true hy0
            have p3 := eq_true e0
            clear hb H hre1 hre2 hle1 hle2 e0 hy0
            go_upto_region 13 with (fail)
            obtain ⟨wa, hwa⟩ : ∃ wa, wa = wr.alloc (.cells #[.int .i64 a.f0, .slice D1 a.f1.length d1, .slice D2 a.f2.length d2, .int .i64 a.f3] 57) := ⟨_, rfl⟩
            rw [← hwa]
            have HBA := Aside0.mk (show Below wr.heap.size wr wa by rw [hwa]; exact below_alloc (Below.refl _ _) _)
            have HA := Aside0.mk (show wa.heap[wr.heap.size]? = some (.cells #[.int .i64 a.f0, .slice D1 a.f1.length d1, .slice D2 a.f2.length d2, .int .i64 a.f3] 57 (0, 0)) by rw [hwa]; exact heap_alloc_new wr _)
            clear hwa
            have HBXA := Aside0.mk ((HBA.out.block _ (blk_lt HBX.out)).trans HBX.out)
            have HRA := Aside0.mk (Kd.C_below HR1.out HBA.out)
            have HRB := Aside0.mk (Kd.C_below HR2.out HBA.out)
            have HS := Aside0.mk (show ∀ w', Below wa.heap.size wa w' → (Below wa.heap.size wa w' ∧ w'.cell? ⟨w.heap.size, 0, none⟩ = some (.slice A0_0 l0_0.length c0_0) ∧ w'.cell? ⟨w.heap.size, 1, none⟩ = some (.slice (some ad) l0_1.length c0_1) ∧ w'.cell? ⟨wr.heap.size, 0, none⟩ = some (.int .i64 a.f0) ∧ w'.cell? ⟨wr.heap.size, 1, none⟩ = some (.slice D1 a.f1.length d1) ∧ w'.cell? ⟨wr.heap.size, 2, none⟩ = some (.slice D2 a.f2.length d2) ∧ w'.cell? ⟨wr.heap.size, 3, none⟩ = some (.int .i64 a.f3)) from fun w' hb => ⟨hb, (blk_cell ((hb.block _ (blk_lt HBXA.out)).trans HBXA.out) 0).trans rfl, (blk_cell ((hb.block _ (blk_lt HBXA.out)).trans HBXA.out) 1).trans rfl, (blk_cell ((hb.block _ (blk_lt HA.out)).trans HA.out) 0).trans rfl, (blk_cell ((hb.block _ (blk_lt HA.out)).trans HA.out) 1).trans rfl, (blk_cell ((hb.block _ (blk_lt HA.out)).trans HA.out) 2).trans rfl, (blk_cell ((hb.block _ (blk_lt HA.out)).trans HA.out) 3).trans rfl⟩)
            clear xb0 xb1 hya hyb hyc hyd
            go_cut [54] (fun v54 wc => v54 = .bool (!b) ∧ Aside0 (Below wa.heap.size wa wc))
            case first =>
              obtain ⟨sb, s0, s1, s2, s3, s4, s5⟩ := HS.out wa (Below.refl _ _)
              go_region_held3 (fun w' => Below wa.heap.size wa w' ∧ w'.cell? ⟨w.heap.size, 0, none⟩ = some (.slice A0_0 l0_0.length c0_0) ∧ w'.cell? ⟨w.heap.size, 1, none⟩ = some (.slice (some ad) l0_1.length c0_1) ∧ w'.cell? ⟨wr.heap.size, 0, none⟩ = some (.int .i64 a.f0) ∧ w'.cell? ⟨wr.heap.size, 1, none⟩ = some (.slice D1 a.f1.length d1) ∧ w'.cell? ⟨wr.heap.size, 2, none⟩ = some (.slice D2 a.f2.length d2) ∧ w'.cell? ⟨wr.heap.size, 3, none⟩ = some (.int .i64 a.f3)) (first | exact HS.out _ (below_drew (Below.refl _ _)) | exact HS.out _ (Below.refl _ _) | (refine HS.out _ ?_; first | exact below_step (And.left (by assumption)) (by assumption) | exact And.left (by assumption)) | go_keep) (first | (go_at_call 62; refine (impl_partOfAct.calls a.f0 D1 a.f1.length d1 D2 a.f2.length d2 a.f3 _).mono ?_; rintro e wq ⟨rfl, hq_⟩) | (go_at_call 61; refine (impl_actOk.calls k a.f0 D1 d1 a.f1 D2 d2 a.f2 a.f3 (l0_0.length : Int) x (l0_1.length : Int) b _ (by exact Kd.C_below HRA.out (And.left (by assumption))) HL1.out (by exact Kd.C_below HRB.out (And.left (by assumption))) HL2.out HAC.out).mono ?_; rintro e wz ⟨rfl, hz_⟩))
              go_wp2_with fail
              go_meet
              exact ⟨rfl, ⟨And.left (by assumption)⟩⟩
            case rest =>
              obtain ⟨rfl, HC_⟩ := hcut
              have HWC := Aside0.mk (show Below wo.heap.size wo wc from below_step (below_step HBi.out HBA.out) HC_.out)
              have HBXC := Aside0.mk ((HC_.out.block _ (blk_lt HBXA.out)).trans HBXA.out)
              clear HC_ HS HA HBA HBXA HRA HRB HR1 HR2 HL1 HL2 HAC HBi HBX
              cases b with
              | false =>
                have hr := HN.out
                rw [if_neg Bool.false_ne_true, Option.bind_some, HG.out] at hr
                obtain rfl : false = r := by simpa using hr
                clear hr HN
                go_wp2
                go_ret
                exact ⟨rfl, below_step HB.out HWC.out⟩
              | true =>
                have hr := HN.out
                rw [if_pos rfl] at hr
                have HN2 := Aside0.mk hr
                clear hr HN
                go_wp2
                go_roundw
                case rel =>
                  have e1 : (wrap64 (y + 1)) = y + 1 := by have h1 := HY.out.1; have h2 := HPy.out; have h3 := HLM.out; unfold wrap64; omega
                  refine ⟨_, rfl, ⟨?_⟩, ⟨?_⟩, HWC, HBXC⟩
                  · rw [e1]; exact ⟨by have := HY.out.1; omega, by have := HPy.out; omega⟩
                  · rw [e1, show (y + 1).toNat = y.toNat + 1 by have := HY.out.1; omega]
                    exact HN2.out
                case measure =>
                  have h1 := HY.out.1
                  have h2 := HPy.out
                  have h3 := HLM.out
                  have e1 : (wrap64 (y + 1)) = y + 1 := by unfold wrap64; omega
                  rw [e1]
                  simp [intOf]
                  omega
          · have e0b : decide (y < ((l.length : Nat) : Int)) = false := decide_eq_false e0
            have HE := Aside0.mk (show y.toNat = l.length by have := HY.out.1; have := HY.out.2; omega)
            have hr := HI.out
            rw [HE.out, List.drop_length, innerF, Option.bind_some, HG.out] at hr
            dsimp only at hr
            rw [if_pos rfl] at hr
            have HN2 := Aside0.mk hr
            clear hr HI e0
            go_wp2
            go_roundw
            case rel =>
              have e1 : (wrap64 (x + 1)) = x + 1 := by have h1 := HX.out.1; have h2 := HP.out; have h3 := HM.out; unfold wrap64; omega
              refine ⟨_, rfl, ⟨?_⟩, ⟨?_⟩, ⟨below_step HB.out HBi.out⟩, HBX⟩
              · rw [e1]; exact ⟨by have := HX.out.1; omega, by have := HP.out; omega⟩
              · rw [e1, show (x + 1).toNat = x.toNat + 1 by have := HX.out.1; omega]
                exact HN2.out
            case measure =>
              have h1 := HX.out.1
              have h2 := HP.out
              have h3 := HM.out
              have e1 : (wrap64 (x + 1)) = x + 1 := by unfold wrap64; omega
              rw [e1]
              simp [intOf]
              omega
    · have c0b : decide (x < ((l0_1.length : Nat) : Int)) = false := decide_eq_false c0
      have HE := Aside0.mk (show x.toNat = l0_1.length by have := HX.out.1; have := HX.out.2; omega)
      have hr := HH.out
      rw [HE.out, List.drop_length, outerF, Option.bind_some, if_pos rfl] at hr
      obtain ⟨t, ht, hr⟩ := Option.bind_eq_some_iff.1 hr
      obtain rfl : decide (t ≤ 7) = r := by simpa using hr
      have HT := Aside0.mk ht
      clear hr ht HH c0
      go_wp2_with fail
      refine (impl_treeOf.calls k _ _ l0_0 _ _ l0_1 0 t _ (by exact Kd.C_below HR0.out HB.out) HC0.out (by exact Kd.C_below HR1.out HB.out) HC1.out HT.out).mono ?_
      rintro e w5 ⟨rfl, hb5⟩
      have HB5 := Aside0.mk (below_step HB.out hb5)
      clear hb5
      by_cases q5 : t ≤ 7
      · have m1 : decide (t ≤ 7) = true := decide_eq_true q5
        have HQ := Aside0.mk m1
        clear q5
        go_wp2
        go_ret
        exact ⟨by rw [HQ.out]; rfl, HB5.out⟩
      · have m1 : decide (t ≤ 7) = false := decide_eq_false q5
        have HQ := Aside0.mk m1
        clear q5
        go_wp2
        go_ret
        exact ⟨by rw [HQ.out]; rfl, HB5.out⟩
end Go.Proofs.Ytoeepmcaabmjkaa.QSN
namespace Go.Proofs.Ytoeepmcaabmjkaa.QSN
open Go.RowKit Go.Proofs.YtoeepmcaabmjkaaW.PrintWords Go.Proofs.YtoeepmcaabmjkaaW.PrintLast Go.Proofs.YtoeepmcaabmjkaaW.PrintMore
attribute [local go_sem] max2_int min2_int max_two min_two max_three min_three max_four min_four   -- for this text's walks alone
set_option linter.unusedVariables false
set_option linter.unusedSimpArgs false
def impl_newTask.f (a0 : Int) (a1 : Int) : Option (Int × Int × Int × List Int × Int × Int × Int × Int × List Int × (List (S115)) × (List (S115)) × Int × Int) := if 3 ≤ 35184372088832 then (some (a0, 0, a1, (List.replicate 3 0), 0, 0, 0, 0, (List.replicate 3 0), ([] : List (S115)), ([] : List (S115)), 0, 0)) else (none)
set_option maxHeartbeats 8000000 in
set_option maxRecDepth 100000 in
theorem impl_newTask.calls (a0 : Int) (a1 : Int) (r1 : Int) (r2 : Int) (r3 : Int) (r4 : List Int) (r5 : Int) (r6 : Int) (r7 : Int) (r8 : Int) (r9 : List Int) (r10 : List (S115)) (r11 : List (S115)) (r12 : Int) (r13 : Int) (w : World) (h : impl_newTask.f a0 a1 = some (r1, r2, r3, r4, r5, r6, r7, r8, r9, r10, r11, r12, r13)) :
    Calls Try.prog 38 #[.int .i64 a0, .int .i64 a1] w fun e w' => ∃ v3_ v8_ v9_ v10_ : Value, e = .returned (.agg #[.int .i64 r1, .int .i64 r2, .int .i64 r3, v3_, .int .i64 r5, .int .i64 r6, .int .i64 r7, .int .i64 r8, v8_, v9_, v10_, .int .i64 r12, .int .i64 r13]) ∧ Kd.R (Kd.int .i64) 3 w' w.heap.size (fun k_ => some k_ ≠ (v8_ : Value).ownBlock) v3_ r4 ∧ Kd.R (Kd.int .i64) 3 w' w.heap.size (fun k_ => some k_ ≠ (v3_ : Value).ownBlock) v8_ r9 ∧ Kd.R k115 115 w' w.heap.size (fun k_ => some k_ ≠ (v10_ : Value).ownBlock) v9_ r10 ∧ Kd.R k115 115 w' w.heap.size (fun k_ => some k_ ≠ (v9_ : Value).ownBlock) v10_ r11 ∧ Below w.heap.size w w' := by
  have hu66 := Try.underlying66
  have HB := Aside0.mk (Below.refl w.heap.size w)
  have H : (if 3 ≤ 35184372088832 then (some (a0, 0, a1, (List.replicate 3 0), 0, 0, 0, 0, (List.replicate 3 0), ([] : List (S115)), ([] : List (S115)), 0, 0)) else (none)) = some (r1, r2, r3, r4, r5, r6, r7, r8, r9, r10, r11, r12, r13) := h
  clear h
  by_cases c3 : 3 ≤ 35184372088832
  · rw [if_pos c3] at H
    have c3b0 := eq_true c3
    have c3b1 : decide (3 ≤ 35184372088832) = true := decide_eq_true c3
    clear c3
    obtain ⟨y253, hy253⟩ : ∃ y_ : List Int, y_ = (List.replicate 3 0) := ⟨_, rfl⟩
    replace H : (some (a0, 0, a1, y253, 0, 0, 0, 0, (List.replicate 3 0), ([] : List (S115)), ([] : List (S115)), 0, 0)) = some (r1, r2, r3, r4, r5, r6, r7, r8, r9, r10, r11, r12, r13) := by first | (rw [hy253]; with_reducible exact H) | (have H2_ := (Option.bind_some _ _).symm.trans H; rw [hy253]; with_reducible exact H2_) | (have H2_ := (Option.bind_some _ _).symm.trans H; with_reducible exact H2_) | with_reducible exact H | (rw [hy253]; exact H) | exact H
    have Ny253 := Aside0.mk hy253
    clear hy253
    obtain ⟨y256, hy256⟩ : ∃ y_ : List Int, y_ = (List.replicate 3 0) := ⟨_, rfl⟩
    replace H : (some (a0, 0, a1, y253, 0, 0, 0, 0, y256, ([] : List (S115)), ([] : List (S115)), 0, 0)) = some (r1, r2, r3, r4, r5, r6, r7, r8, r9, r10, r11, r12, r13) := by first | (rw [hy256]; with_reducible exact H) | (have H2_ := (Option.bind_some _ _).symm.trans H; rw [hy256]; with_reducible exact H2_) | (have H2_ := (Option.bind_some _ _).symm.trans H; with_reducible exact H2_) | with_reducible exact H | (rw [hy256]; exact H) | exact H
    have Ny256 := Aside0.mk hy256
    clear hy256
    simp only [Option.some.injEq, Prod.mk.injEq] at H
    obtain ⟨rfl, rfl, rfl, rfl, rfl, rfl, rfl, rfl, rfl, rfl, rfl, rfl, rfl⟩ := H
    go_enter Try.func38, Try.ntmps38
    try go_wp2_with (first | ((with_reducible refine gate_dst (N := 4) rfl ?_); refine box_event ?hg (N := 4) ?hd (cs := #[.int .i64 0, .int .i64 0, .int .i64 0, .slice none 0 0, .int .i64 0, .int .i64 0, .int .i64 0, .int .i64 0, .slice none 0 0, .slice none 0 0, .slice none 0 0, .int .i64 0, .int .i64 0]) (t := 66) ?hr ?_; (case hd => rfl); (case hg => rfl); (case hr => first | (go_simp; done) | (go_simp; rfl)); intro gb252 hg w4 hbox hb; have n0_ := Aside0.mk (below_step (by repeat (first | (with_reducible first | exact HB.out | apply below_alloc | apply pw_below_drewN | apply below_drew1) | exact HB.out)) hb); have n1_ := Aside0.mk (hbox); have n2_ := Aside0.mk ((by rw [hg]; exact (below_size (by repeat (first | (with_reducible first | exact HB.out | apply below_alloc | apply pw_below_drewN | apply below_drew1) | exact HB.out))) : w.heap.size ≤ gb252)); have n3_ := Aside0.mk ((by rw [hg]; exact (below_size (by repeat (first | (with_reducible first | exact HB.out | apply below_alloc | apply pw_below_drewN | apply below_drew1) | exact HB.out))) : w.heap.size ≤ gb252)); clear HB; have HB := n0_; have BK252 := n1_; have GW252 := n2_; have GE252 := n3_; clear n0_ n1_ n2_ n3_; clear hb hbox hg))
    have n0_ := Aside0.mk (blk_drew BK252.out)
    have n1_ := Aside0.mk (below_drew1 HB.out)
    clear BK252
    clear HB
    have BK252 := n0_
    have HB := n1_
    clear n0_ n1_
    refine start_ (n := 6) (S := fun w' => True) (ds := []) #[false, false, false, false, false, false] (by kernel_rfl) rfl rfl trivial (fun hHeld => ?_)
    generalize w4.drew = w5 at BK252 HB hHeld ⊢
    refine pure_ (i := 0) (N := some 5) (v := ?_) (a' := ?_) #[true, false, false, false, false, false] rfl rfl (by kernel_rfl) (fun _ _ _ h => h) (Or.inl ⟨by rfl, ?_⟩) ?_ ?_
    rotate_left
    · intro w'
      go_simp
      with_reducible rfl
    rotate_left
    · simp only [Act.put, List.setIfInBounds_toArray, List.set_cons_zero, List.set_cons_succ, i64_w, i32_w]
      rfl
    refine pure_ (i := 1) (N := some 6) (v := ?_) (a' := ?_) #[true, true, false, false, false, false] rfl rfl (by kernel_rfl) (fun _ _ _ h => h) (Or.inl ⟨by rfl, ?_⟩) ?_ ?_
    rotate_left
    · intro w'
      go_simp
      with_reducible rfl
    rotate_left
    · simp only [Act.put, List.setIfInBounds_toArray, List.set_cons_zero, List.set_cons_succ, i64_w, i32_w]
      rfl
    refine join_ (σ := Value × Value) 2 #[true, true, true, true, false, false] (fun s_ => [(7, s_.1), (8, s_.2)]) (fun s_ w' => (Kd.R (Kd.int .i64) 3 w' w.heap.size (fun k_ => some k_ ≠ (s_.2 : Value).ownBlock) s_.1 y253) ∧ (Kd.R (Kd.int .i64) 3 w' w.heap.size (fun k_ => some k_ ≠ (s_.1 : Value).ownBlock) s_.2 y256) ∧ (w'.heap[gb252]? = some (.cells #[.int .i64 0, .int .i64 0, .int .i64 0, .slice none 0 0, .int .i64 0, .int .i64 0, .int .i64 0, .int .i64 0, .slice none 0 0, .slice none 0 0, .slice none 0 0, .int .i64 0, .int .i64 0] 66 (0, 0))) ∧ (Below w.heap.size w w')) ?_ ?_
    rotate_left
    · intro hCont
      refine two_ (i := 2) (j := 3) (Ni := some 7) (Nj := some 8) #[true, true, true, false, false, false] #[true, true, false, true, false, false] rfl rfl rfl rfl (by kernel_rfl) (by decide) (by decide) (fun K hK => ?_) (fun K hK => ?_)
      · skip
        refine Kd.R_make_step (Kd.int .i64) _ 3 (by rfl) (N := 7) rfl 22 _ _ rfl 3 rfl rfl Try.underlying22 (.int .i64 0) 8 info3 rfl (by decide) (by omega) 0 (ok := fun _ => True) (okp := fun _ => True) rfl (fun _ hk => hk) trivial (by omega) (by omega) (Below.refl _ _) (Nat.le_refl _) ?_
        intro v254 w6 ho7 hb hg_ hnew_
        clear hg_ hnew_
        (first | rw [← Ny253.out] at ho7 | (simp only [Int.reduceToNat] at ho7; rw [← Ny253.out] at ho7))
        have n0_ := Aside0.mk (Kd.R_lower ho7 (below_size (by repeat (first | (with_reducible first | exact HB.out | apply below_alloc | apply pw_below_drewN | apply below_drew1 | refine below_set ?_ GE252.out) | exact HB.out))))
        have n1_ := Aside0.mk (blk_below (g := gb252) (o := .cells #[.int .i64 0, .int .i64 0, .int .i64 0, .slice none 0 0, .int .i64 0, .int .i64 0, .int .i64 0, .int .i64 0, .slice none 0 0, .slice none 0 0, .slice none 0 0, .int .i64 0, .int .i64 0] 66 (0, 0)) (by (with_reducible repeat (first | refine blk_drewN ?_ _ | refine blk_drew ?_ | refine blk_alloc ?_ _)); exact BK252.out) hb)
        have n2_ := Aside0.mk (below_step (by repeat (first | (with_reducible first | exact HB.out | apply below_alloc | apply pw_below_drewN | apply below_drew1 | refine below_set ?_ GE252.out) | exact HB.out)) hb)
        clear BK252
        clear HB
        have HO255 := n0_
        have BK252 := n1_
        have HB := n2_
        clear n0_ n1_ n2_
        clear hb ho7
        refine hK.out _ _ trivial (fun hHeld => ?_)
        clear hK K
        refine norm_ (a' := ?_) ?_ ?_
        rotate_left
        · show Act.put _ (some 7) _ = _
          simp only [Act.put, List.setIfInBounds_toArray, List.set_cons_zero, List.set_cons_succ, i64_w, i32_w]
          rfl
        refine one_ (i := 3) (N := some 8) #[true, true, true, true, false, false] rfl rfl (by kernel_rfl) (by decide) (fun K hK => ?_)
        refine Kd.R_make_step (Kd.int .i64) _ 3 (by rfl) (N := 8) rfl 22 _ _ rfl 3 rfl rfl Try.underlying22 (.int .i64 0) 8 info3 rfl (by decide) (by omega) 0 (ok := fun _ => True) (okp := fun _ => True) rfl (fun _ hk => hk) trivial (by omega) (by omega) (Below.refl _ _) (Nat.le_refl _) ?_
        intro v257 w8 ho9 hb hg_ hnew_
        clear hg_ hnew_
        (first | rw [← Ny256.out] at ho9 | (simp only [Int.reduceToNat] at ho9; rw [← Ny256.out] at ho9))
        have n0_ := Aside0.mk (Kd.R_elder' (by (with_reducible repeat (first | apply Kd.R_alloc | apply Kd.R_drewN | apply Kd.R_drew)); exact HO255.out) (Kd.R_base ho9) hb)
        have n1_ := Aside0.mk (Kd.R_lower (Kd.R_new' ho9 (Kd.R_lt (by (with_reducible repeat (first | apply Kd.R_alloc | apply Kd.R_drewN | apply Kd.R_drew)); exact HO255.out))) (below_size (by repeat (first | (with_reducible first | exact HB.out | apply below_alloc | apply pw_below_drewN | apply below_drew1 | refine below_set ?_ GE252.out) | exact HB.out))))
        have n2_ := Aside0.mk (blk_below (g := gb252) (o := .cells #[.int .i64 0, .int .i64 0, .int .i64 0, .slice none 0 0, .int .i64 0, .int .i64 0, .int .i64 0, .int .i64 0, .slice none 0 0, .slice none 0 0, .slice none 0 0, .int .i64 0, .int .i64 0] 66 (0, 0)) (by (with_reducible repeat (first | refine blk_drewN ?_ _ | refine blk_drew ?_ | refine blk_alloc ?_ _)); exact BK252.out) hb)
        have n3_ := Aside0.mk (below_step (by repeat (first | (with_reducible first | exact HB.out | apply below_alloc | apply pw_below_drewN | apply below_drew1 | refine below_set ?_ GE252.out) | exact HB.out)) hb)
        clear HO255
        clear BK252
        clear HB
        have HO255 := n0_
        have HO258 := n1_
        have BK252 := n2_
        have HB := n3_
        clear n0_ n1_ n2_ n3_
        clear hb ho9
        obtain ⟨Ao10, co10, eo10⟩ := Kd.R_slice HO258.out
        (first | subst eo10 | (injection eo10 with f1_ f2_ f3_; have f4_ := f1_.symm; have f5_ := f3_.symm; clear f1_ f2_ f3_; subst f4_; subst f5_))
        obtain ⟨Ao11, co11, eo11⟩ := Kd.R_slice HO255.out
        (first | subst eo11 | (injection eo11 with f1_ f2_ f3_; have f4_ := f1_.symm; have f5_ := f3_.symm; clear f1_ f2_ f3_; subst f4_; subst f5_))
        refine hK.out _ _ trivial (fun hHeld => ?_)
        clear hK K
        refine norm_ (a' := ?_) ?_ ?_
        rotate_left
        · show Act.put _ (some 8) _ = _
          simp only [Act.put, List.setIfInBounds_toArray, List.set_cons_zero, List.set_cons_succ, i64_w, i32_w]
          rfl
        exact norm_ (by simp only [putAll, Act.put, List.setIfInBounds_toArray, List.set_cons_zero, List.set_cons_succ]) (hCont (.slice Ao11 y253.length co11, .slice Ao10 y256.length co10) _ ⟨(by (with_reducible repeat (first | apply Kd.R_alloc | apply Kd.R_drewN | apply Kd.R_drew)); exact Kd.R_mono HO255.out (fun _ hk => hk.2)), (by (with_reducible repeat (first | apply Kd.R_alloc | apply Kd.R_drewN | apply Kd.R_drew)); exact Kd.R_mono HO258.out (fun _ hk => hk.2)), (by (with_reducible repeat (first | refine blk_drewN ?_ _ | refine blk_drew ?_ | refine blk_alloc ?_ _)); exact BK252.out), (by repeat (first | (with_reducible first | exact HB.out | apply below_alloc | apply pw_below_drewN | apply below_drew1 | refine below_set ?_ GE252.out) | exact HB.out))⟩)
      · skip
        refine Kd.R_make_step (Kd.int .i64) _ 3 (by rfl) (N := 8) rfl 22 _ _ rfl 3 rfl rfl Try.underlying22 (.int .i64 0) 8 info3 rfl (by decide) (by omega) 0 (ok := fun _ => True) (okp := fun _ => True) rfl (fun _ hk => hk) trivial (by omega) (by omega) (Below.refl _ _) (Nat.le_refl _) ?_
        intro v257 w6 ho7 hb hg_ hnew_
        clear hg_ hnew_
        (first | rw [← Ny256.out] at ho7 | (simp only [Int.reduceToNat] at ho7; rw [← Ny256.out] at ho7))
        have n0_ := Aside0.mk (Kd.R_lower ho7 (below_size (by repeat (first | (with_reducible first | exact HB.out | apply below_alloc | apply pw_below_drewN | apply below_drew1 | refine below_set ?_ GE252.out) | exact HB.out))))
        have n1_ := Aside0.mk (blk_below (g := gb252) (o := .cells #[.int .i64 0, .int .i64 0, .int .i64 0, .slice none 0 0, .int .i64 0, .int .i64 0, .int .i64 0, .int .i64 0, .slice none 0 0, .slice none 0 0, .slice none 0 0, .int .i64 0, .int .i64 0] 66 (0, 0)) (by (with_reducible repeat (first | refine blk_drewN ?_ _ | refine blk_drew ?_ | refine blk_alloc ?_ _)); exact BK252.out) hb)
        have n2_ := Aside0.mk (below_step (by repeat (first | (with_reducible first | exact HB.out | apply below_alloc | apply pw_below_drewN | apply below_drew1 | refine below_set ?_ GE252.out) | exact HB.out)) hb)
        clear BK252
        clear HB
        have HO258 := n0_
        have BK252 := n1_
        have HB := n2_
        clear n0_ n1_ n2_
        clear hb ho7
        refine hK.out _ _ trivial (fun hHeld => ?_)
        clear hK K
        refine norm_ (a' := ?_) ?_ ?_
        rotate_left
        · show Act.put _ (some 8) _ = _
          simp only [Act.put, List.setIfInBounds_toArray, List.set_cons_zero, List.set_cons_succ, i64_w, i32_w]
          rfl
        refine one_ (i := 2) (N := some 7) #[true, true, true, true, false, false] rfl rfl (by kernel_rfl) (by decide) (fun K hK => ?_)
        refine Kd.R_make_step (Kd.int .i64) _ 3 (by rfl) (N := 7) rfl 22 _ _ rfl 3 rfl rfl Try.underlying22 (.int .i64 0) 8 info3 rfl (by decide) (by omega) 0 (ok := fun _ => True) (okp := fun _ => True) rfl (fun _ hk => hk) trivial (by omega) (by omega) (Below.refl _ _) (Nat.le_refl _) ?_
        intro v254 w8 ho9 hb hg_ hnew_
        clear hg_ hnew_
        (first | rw [← Ny253.out] at ho9 | (simp only [Int.reduceToNat] at ho9; rw [← Ny253.out] at ho9))
        have n0_ := Aside0.mk (Kd.R_elder' (by (with_reducible repeat (first | apply Kd.R_alloc | apply Kd.R_drewN | apply Kd.R_drew)); exact HO258.out) (Kd.R_base ho9) hb)
        have n1_ := Aside0.mk (Kd.R_lower (Kd.R_new' ho9 (Kd.R_lt (by (with_reducible repeat (first | apply Kd.R_alloc | apply Kd.R_drewN | apply Kd.R_drew)); exact HO258.out))) (below_size (by repeat (first | (with_reducible first | exact HB.out | apply below_alloc | apply pw_below_drewN | apply below_drew1 | refine below_set ?_ GE252.out) | exact HB.out))))
        have n2_ := Aside0.mk (blk_below (g := gb252) (o := .cells #[.int .i64 0, .int .i64 0, .int .i64 0, .slice none 0 0, .int .i64 0, .int .i64 0, .int .i64 0, .int .i64 0, .slice none 0 0, .slice none 0 0, .slice none 0 0, .int .i64 0, .int .i64 0] 66 (0, 0)) (by (with_reducible repeat (first | refine blk_drewN ?_ _ | refine blk_drew ?_ | refine blk_alloc ?_ _)); exact BK252.out) hb)
        have n3_ := Aside0.mk (below_step (by repeat (first | (with_reducible first | exact HB.out | apply below_alloc | apply pw_below_drewN | apply below_drew1 | refine below_set ?_ GE252.out) | exact HB.out)) hb)
        clear HO258
        clear BK252
        clear HB
        have HO258 := n0_
        have HO255 := n1_
        have BK252 := n2_
        have HB := n3_
        clear n0_ n1_ n2_ n3_
        clear hb ho9
        obtain ⟨Ao10, co10, eo10⟩ := Kd.R_slice HO258.out
        (first | subst eo10 | (injection eo10 with f1_ f2_ f3_; have f4_ := f1_.symm; have f5_ := f3_.symm; clear f1_ f2_ f3_; subst f4_; subst f5_))
        obtain ⟨Ao11, co11, eo11⟩ := Kd.R_slice HO255.out
        (first | subst eo11 | (injection eo11 with f1_ f2_ f3_; have f4_ := f1_.symm; have f5_ := f3_.symm; clear f1_ f2_ f3_; subst f4_; subst f5_))
        refine hK.out _ _ trivial (fun hHeld => ?_)
        clear hK K
        refine norm_ (a' := ?_) ?_ ?_
        rotate_left
        · show Act.put _ (some 7) _ = _
          simp only [Act.put, List.setIfInBounds_toArray, List.set_cons_zero, List.set_cons_succ, i64_w, i32_w]
          rfl
        exact norm_ (by simp only [putAll, Act.put, List.setIfInBounds_toArray, List.set_cons_zero, List.set_cons_succ]) (hCont (.slice Ao11 y253.length co11, .slice Ao10 y256.length co10) _ ⟨(by (with_reducible repeat (first | apply Kd.R_alloc | apply Kd.R_drewN | apply Kd.R_drew)); exact Kd.R_mono HO255.out (fun _ hk => hk.2)), (by (with_reducible repeat (first | apply Kd.R_alloc | apply Kd.R_drewN | apply Kd.R_drew)); exact Kd.R_mono HO258.out (fun _ hk => hk.2)), (by (with_reducible repeat (first | refine blk_drewN ?_ _ | refine blk_drew ?_ | refine blk_alloc ?_ _)); exact BK252.out), (by repeat (first | (with_reducible first | exact HB.out | apply below_alloc | apply pw_below_drewN | apply below_drew1 | refine below_set ?_ GE252.out) | exact HB.out))⟩)
    rintro ⟨v254, v257⟩ w12 ⟨h0_, h1_, h2_, h3_⟩
    have n0_ : Aside0 (Kd.R (Kd.int .i64) 3 w12 w.heap.size (fun k_ => some k_ ≠ (v257 : Value).ownBlock) v254 y253) := ⟨h0_⟩
    have n1_ : Aside0 (Kd.R (Kd.int .i64) 3 w12 w.heap.size (fun k_ => some k_ ≠ (v254 : Value).ownBlock) v257 y256) := ⟨h1_⟩
    have n2_ : Aside0 (w12.heap[gb252]? = some (.cells #[.int .i64 0, .int .i64 0, .int .i64 0, .slice none 0 0, .int .i64 0, .int .i64 0, .int .i64 0, .int .i64 0, .slice none 0 0, .slice none 0 0, .slice none 0 0, .int .i64 0, .int .i64 0] 66 (0, 0))) := ⟨h2_⟩
    have n3_ : Aside0 (Below w.heap.size w w12) := ⟨h3_⟩
    clear BK252
    clear HB
    clear h0_ h1_ h2_ h3_
    have HO255 := n0_
    have HO258 := n1_
    have BK252 := n2_
    have HB := n3_
    clear n0_ n1_ n2_ n3_
    have hHeld := trivial
    obtain ⟨Ao13, co13, eo13⟩ := Kd.R_slice HO258.out
    (first | subst eo13 | (injection eo13 with f1_ f2_ f3_; have f4_ := f1_.symm; have f5_ := f3_.symm; clear f1_ f2_ f3_; subst f4_; subst f5_))
    obtain ⟨Ao14, co14, eo14⟩ := Kd.R_slice HO255.out
    (first | subst eo14 | (injection eo14 with f1_ f2_ f3_; have f4_ := f1_.symm; have f5_ := f3_.symm; clear f1_ f2_ f3_; subst f4_; subst f5_))
    refine norm_ (a' := ?_) ?_ ?_
    rotate_left
    · simp only [putAll, Act.put, List.setIfInBounds_toArray, List.set_cons_zero, List.set_cons_succ]
      rfl
    refine pure_ (i := 4) (N := some 9) (v := ?_) (a' := ?_) #[true, true, true, true, true, false] rfl rfl (by kernel_rfl) (fun _ _ _ h => h) (Or.inl ⟨by rfl, ?_⟩) ?_ ?_
    rotate_left
    · intro w'
      go_simp
      with_reducible rfl
    rotate_left
    · simp only [Act.put, List.setIfInBounds_toArray, List.set_cons_zero, List.set_cons_succ, i64_w, i32_w]
      rfl
    refine one_ (i := 5) (N := none) #[true, true, true, true, true, true] rfl rfl (by kernel_rfl) (by decide) (fun K hK => ?_)
    have hs15 : w12.cell? ⟨gb252, 0, none⟩ = some (.int .i64 0) := (blk_cell BK252.out 0).trans rfl
    have hfs15 := blk_frozen BK252.out 0
    have hs16 : w12.cell? ⟨gb252, 1, none⟩ = some (.int .i64 0) := (blk_cell BK252.out 1).trans rfl
    have hfs16 := blk_frozen BK252.out 1
    have hs17 : w12.cell? ⟨gb252, 2, none⟩ = some (.int .i64 0) := (blk_cell BK252.out 2).trans rfl
    have hfs17 := blk_frozen BK252.out 2
    have hs18 : w12.cell? ⟨gb252, 3, none⟩ = some (.slice none 0 0) := (blk_cell BK252.out 3).trans rfl
    have hfs18 := blk_frozen BK252.out 3
    have hs19 : w12.cell? ⟨gb252, 4, none⟩ = some (.int .i64 0) := (blk_cell BK252.out 4).trans rfl
    have hfs19 := blk_frozen BK252.out 4
    have hs20 : w12.cell? ⟨gb252, 5, none⟩ = some (.int .i64 0) := (blk_cell BK252.out 5).trans rfl
    have hfs20 := blk_frozen BK252.out 5
    have hs21 : w12.cell? ⟨gb252, 6, none⟩ = some (.int .i64 0) := (blk_cell BK252.out 6).trans rfl
    have hfs21 := blk_frozen BK252.out 6
    have hs22 : w12.cell? ⟨gb252, 7, none⟩ = some (.int .i64 0) := (blk_cell BK252.out 7).trans rfl
    have hfs22 := blk_frozen BK252.out 7
    have hs23 : w12.cell? ⟨gb252, 8, none⟩ = some (.slice none 0 0) := (blk_cell BK252.out 8).trans rfl
    have hfs23 := blk_frozen BK252.out 8
    have hs24 : w12.cell? ⟨gb252, 9, none⟩ = some (.slice none 0 0) := (blk_cell BK252.out 9).trans rfl
    have hfs24 := blk_frozen BK252.out 9
    have hs25 : w12.cell? ⟨gb252, 10, none⟩ = some (.slice none 0 0) := (blk_cell BK252.out 10).trans rfl
    have hfs25 := blk_frozen BK252.out 10
    have hs26 : w12.cell? ⟨gb252, 11, none⟩ = some (.int .i64 0) := (blk_cell BK252.out 11).trans rfl
    have hfs26 := blk_frozen BK252.out 11
    have hs27 : w12.cell? ⟨gb252, 12, none⟩ = some (.int .i64 0) := (blk_cell BK252.out 12).trans rfl
    have hfs27 := blk_frozen BK252.out 12
    refine skip_ (w1 := ?_) (by rfl) rfl ?_ ?_
    rotate_left
    · go_simp
      rfl
    refine hK.out _ _ trivial (fun hHeld => ?_)
    clear hK K
    refine done_ (by kernel_rfl) ?_
    try go_wp2
    refine bodyPost_ret (results_cell_row rfl _ _ gb252 66 #[.int .i64 a0, .int .i64 0, .int .i64 a1, .slice Ao14 y253.length co14, .int .i64 0, .int .i64 0, .int .i64 0, .int .i64 0, .slice Ao13 y256.length co13, .slice none 0 0, .slice none 0 0, .int .i64 0, .int .i64 0] (0, 0) _ rfl (by (with_reducible repeat (first | refine blk_drewN ?_ _ | refine blk_drew ?_ | refine blk_alloc ?_ _)); refine blk_put (cs := #[.int .i64 a0, .int .i64 0, .int .i64 a1, .slice Ao14 y253.length co14, .int .i64 0, .int .i64 0, .int .i64 0, .int .i64 0, .slice Ao13 y256.length co13, .slice none 0 0, .slice none 0 0, .int .i64 0, .int .i64 0]) ?_ 12 _ rfl; (with_reducible repeat (first | refine blk_drewN ?_ _ | refine blk_drew ?_ | refine blk_alloc ?_ _)); refine blk_put (cs := #[.int .i64 a0, .int .i64 0, .int .i64 a1, .slice Ao14 y253.length co14, .int .i64 0, .int .i64 0, .int .i64 0, .int .i64 0, .slice Ao13 y256.length co13, .slice none 0 0, .slice none 0 0, .int .i64 0, .int .i64 0]) ?_ 11 _ rfl; (with_reducible repeat (first | refine blk_drewN ?_ _ | refine blk_drew ?_ | refine blk_alloc ?_ _)); refine blk_put (cs := #[.int .i64 a0, .int .i64 0, .int .i64 a1, .slice Ao14 y253.length co14, .int .i64 0, .int .i64 0, .int .i64 0, .int .i64 0, .slice Ao13 y256.length co13, .slice none 0 0, .slice none 0 0, .int .i64 0, .int .i64 0]) ?_ 10 _ rfl; (with_reducible repeat (first | refine blk_drewN ?_ _ | refine blk_drew ?_ | refine blk_alloc ?_ _)); refine blk_put (cs := #[.int .i64 a0, .int .i64 0, .int .i64 a1, .slice Ao14 y253.length co14, .int .i64 0, .int .i64 0, .int .i64 0, .int .i64 0, .slice Ao13 y256.length co13, .slice none 0 0, .slice none 0 0, .int .i64 0, .int .i64 0]) ?_ 9 _ rfl; (with_reducible repeat (first | refine blk_drewN ?_ _ | refine blk_drew ?_ | refine blk_alloc ?_ _)); refine blk_put (cs := #[.int .i64 a0, .int .i64 0, .int .i64 a1, .slice Ao14 y253.length co14, .int .i64 0, .int .i64 0, .int .i64 0, .int .i64 0, .slice none 0 0, .slice none 0 0, .slice none 0 0, .int .i64 0, .int .i64 0]) ?_ 8 _ rfl; (with_reducible repeat (first | refine blk_drewN ?_ _ | refine blk_drew ?_ | refine blk_alloc ?_ _)); refine blk_put (cs := #[.int .i64 a0, .int .i64 0, .int .i64 a1, .slice Ao14 y253.length co14, .int .i64 0, .int .i64 0, .int .i64 0, .int .i64 0, .slice none 0 0, .slice none 0 0, .slice none 0 0, .int .i64 0, .int .i64 0]) ?_ 7 _ rfl; (with_reducible repeat (first | refine blk_drewN ?_ _ | refine blk_drew ?_ | refine blk_alloc ?_ _)); refine blk_put (cs := #[.int .i64 a0, .int .i64 0, .int .i64 a1, .slice Ao14 y253.length co14, .int .i64 0, .int .i64 0, .int .i64 0, .int .i64 0, .slice none 0 0, .slice none 0 0, .slice none 0 0, .int .i64 0, .int .i64 0]) ?_ 6 _ rfl; (with_reducible repeat (first | refine blk_drewN ?_ _ | refine blk_drew ?_ | refine blk_alloc ?_ _)); refine blk_put (cs := #[.int .i64 a0, .int .i64 0, .int .i64 a1, .slice Ao14 y253.length co14, .int .i64 0, .int .i64 0, .int .i64 0, .int .i64 0, .slice none 0 0, .slice none 0 0, .slice none 0 0, .int .i64 0, .int .i64 0]) ?_ 5 _ rfl; (with_reducible repeat (first | refine blk_drewN ?_ _ | refine blk_drew ?_ | refine blk_alloc ?_ _)); refine blk_put (cs := #[.int .i64 a0, .int .i64 0, .int .i64 a1, .slice Ao14 y253.length co14, .int .i64 0, .int .i64 0, .int .i64 0, .int .i64 0, .slice none 0 0, .slice none 0 0, .slice none 0 0, .int .i64 0, .int .i64 0]) ?_ 4 _ rfl; (with_reducible repeat (first | refine blk_drewN ?_ _ | refine blk_drew ?_ | refine blk_alloc ?_ _)); refine blk_put (cs := #[.int .i64 a0, .int .i64 0, .int .i64 a1, .slice none 0 0, .int .i64 0, .int .i64 0, .int .i64 0, .int .i64 0, .slice none 0 0, .slice none 0 0, .slice none 0 0, .int .i64 0, .int .i64 0]) ?_ 3 _ rfl; (with_reducible repeat (first | refine blk_drewN ?_ _ | refine blk_drew ?_ | refine blk_alloc ?_ _)); refine blk_put (cs := #[.int .i64 a0, .int .i64 0, .int .i64 0, .slice none 0 0, .int .i64 0, .int .i64 0, .int .i64 0, .int .i64 0, .slice none 0 0, .slice none 0 0, .slice none 0 0, .int .i64 0, .int .i64 0]) ?_ 2 _ rfl; (with_reducible repeat (first | refine blk_drewN ?_ _ | refine blk_drew ?_ | refine blk_alloc ?_ _)); refine blk_put (cs := #[.int .i64 a0, .int .i64 0, .int .i64 0, .slice none 0 0, .int .i64 0, .int .i64 0, .int .i64 0, .int .i64 0, .slice none 0 0, .slice none 0 0, .slice none 0 0, .int .i64 0, .int .i64 0]) ?_ 1 _ rfl; (with_reducible repeat (first | refine blk_drewN ?_ _ | refine blk_drew ?_ | refine blk_alloc ?_ _)); refine blk_put (cs := #[.int .i64 0, .int .i64 0, .int .i64 0, .slice none 0 0, .int .i64 0, .int .i64 0, .int .i64 0, .int .i64 0, .slice none 0 0, .slice none 0 0, .slice none 0 0, .int .i64 0, .int .i64 0]) ?_ 0 _ rfl; (with_reducible repeat (first | refine blk_drewN ?_ _ | refine blk_drew ?_ | refine blk_alloc ?_ _)); exact BK252.out) Try.underlying66 rfl (by kernel_rfl)) rfl ?_
    exact ⟨_, _, _, _, by first | rfl | (simp [errW_none, errW_some] <;> rfl) | (simp [*, errW_none, errW_some] <;> rfl), by (with_reducible repeat (first | apply Kd.R_alloc | apply Kd.R_drewN | apply Kd.R_drew)); exact Kd.R_mono (Kd.R_far (p := ⟨gb252, 12, none⟩) (Kd.R_far (p := ⟨gb252, 11, none⟩) (Kd.R_far (p := ⟨gb252, 10, none⟩) (Kd.R_far (p := ⟨gb252, 9, none⟩) (Kd.R_far (p := ⟨gb252, 8, none⟩) (Kd.R_far (p := ⟨gb252, 7, none⟩) (Kd.R_far (p := ⟨gb252, 6, none⟩) (Kd.R_far (p := ⟨gb252, 5, none⟩) (Kd.R_far (p := ⟨gb252, 4, none⟩) (Kd.R_far (p := ⟨gb252, 3, none⟩) (Kd.R_far (p := ⟨gb252, 2, none⟩) (Kd.R_far (p := ⟨gb252, 1, none⟩) (Kd.R_far (p := ⟨gb252, 0, none⟩) (Kd.R_types HO255.out BK252.out (by decide)) (fun _ hk => hk.2) (.int .i64 a0)) (fun _ hk => hk.2) (.int .i64 0)) (fun _ hk => hk.2) (.int .i64 a1)) (fun _ hk => hk.2) (.slice Ao14 y253.length co14)) (fun _ hk => hk.2) (.int .i64 0)) (fun _ hk => hk.2) (.int .i64 0)) (fun _ hk => hk.2) (.int .i64 0)) (fun _ hk => hk.2) (.int .i64 0)) (fun _ hk => hk.2) (.slice Ao13 y256.length co13)) (fun _ hk => hk.2) (.slice none 0 0)) (fun _ hk => hk.2) (.slice none 0 0)) (fun _ hk => hk.2) (.int .i64 0)) (fun _ hk => hk.2) (.int .i64 0)) (fun _ hk => hk.1), by (with_reducible repeat (first | apply Kd.R_alloc | apply Kd.R_drewN | apply Kd.R_drew)); exact Kd.R_mono (Kd.R_far (p := ⟨gb252, 12, none⟩) (Kd.R_far (p := ⟨gb252, 11, none⟩) (Kd.R_far (p := ⟨gb252, 10, none⟩) (Kd.R_far (p := ⟨gb252, 9, none⟩) (Kd.R_far (p := ⟨gb252, 8, none⟩) (Kd.R_far (p := ⟨gb252, 7, none⟩) (Kd.R_far (p := ⟨gb252, 6, none⟩) (Kd.R_far (p := ⟨gb252, 5, none⟩) (Kd.R_far (p := ⟨gb252, 4, none⟩) (Kd.R_far (p := ⟨gb252, 3, none⟩) (Kd.R_far (p := ⟨gb252, 2, none⟩) (Kd.R_far (p := ⟨gb252, 1, none⟩) (Kd.R_far (p := ⟨gb252, 0, none⟩) (Kd.R_types HO258.out BK252.out (by decide)) (fun _ hk => hk.2) (.int .i64 a0)) (fun _ hk => hk.2) (.int .i64 0)) (fun _ hk => hk.2) (.int .i64 a1)) (fun _ hk => hk.2) (.slice Ao14 y253.length co14)) (fun _ hk => hk.2) (.int .i64 0)) (fun _ hk => hk.2) (.int .i64 0)) (fun _ hk => hk.2) (.int .i64 0)) (fun _ hk => hk.2) (.int .i64 0)) (fun _ hk => hk.2) (.slice Ao13 y256.length co13)) (fun _ hk => hk.2) (.slice none 0 0)) (fun _ hk => hk.2) (.slice none 0 0)) (fun _ hk => hk.2) (.int .i64 0)) (fun _ hk => hk.2) (.int .i64 0)) (fun _ hk => hk.1), by first | exact Kd.R_nil _ _ _ _ _ | exact Kd.N_nil _ _ _ _ _ | exact Kd.V_nil _ _ _ _ _ | exact Kd.Q_nil _ _ _ _ _ | exact Kd.S_nil _ _ _ _ _, by first | exact Kd.R_nil _ _ _ _ _ | exact Kd.N_nil _ _ _ _ _ | exact Kd.V_nil _ _ _ _ _ | exact Kd.Q_nil _ _ _ _ _ | exact Kd.S_nil _ _ _ _ _, by repeat (first | (with_reducible first | exact HB.out | apply below_alloc | apply pw_below_drewN | apply below_drew1 | refine below_set ?_ GE252.out) | exact HB.out)⟩
  · rw [if_neg c3] at H
    exact absurd H (by simp)
end Go.Proofs.Ytoeepmcaabmjkaa.QSN
namespace Go.Proofs.Ytoeepmcaabmjkaa.QSN
open Go.RowKit Go.Proofs.YtoeepmcaabmjkaaW.PrintWords Go.Proofs.YtoeepmcaabmjkaaW.PrintLast Go.Proofs.YtoeepmcaabmjkaaW.PrintMore
attribute [local go_sem] max2_int min2_int max_two min_two max_three min_three max_four min_four   -- for this text's walks alone
set_option linter.unusedVariables false
set_option linter.unusedSimpArgs false
def impl_SysNew.l0 : Nat → List Int → Int → Int → List (S69) → List (S66) → Int → Option ((List (S69)) × (List (S66)) × Int × (List (S84)) × Bool)
  | 0, _, _, _, _, _, _ => none
  | k + 1, x15, x16, x17, x287000, x287001, x287002 => if x17 < x16 then (if 0 ≤ x17 then (if x17 < (x15.length : Int) then (if x287000.length < 5864062014805 then (impl_SysNew.l0 k x15 x16 (wrap64 (x17 + 1)) (x287000 ++ [(⟨rd x15 x17, 0, (-1)⟩ : S69)]) x287001 x287002) else (none)) else (none)) else (none)) else (some (x287000, x287001, x287002, ([] : List (S84)), true))
def impl_SysNew.f (k : Nat) (l0_0 : List Int) (l0_1 : List (List (S57))) : Option ((List (S69)) × (List (S66)) × Int × (List (S84)) × Bool) := (impl_ProgOk.f k l0_0 l0_1).bind fun t261 => (if t261 = true then ((impl_newTask.f 0 (-1)).bind fun bt262 => (impl_SysNew.l0 k l0_0 (l0_0.length : Int) 0 ([] : List (S69)) (([(⟨bt262.1, bt262.2.1, bt262.2.2.1, bt262.2.2.2.1, bt262.2.2.2.2.1, bt262.2.2.2.2.2.1, bt262.2.2.2.2.2.2.1, bt262.2.2.2.2.2.2.2.1, bt262.2.2.2.2.2.2.2.2.1, bt262.2.2.2.2.2.2.2.2.2.1, bt262.2.2.2.2.2.2.2.2.2.2.1, bt262.2.2.2.2.2.2.2.2.2.2.2.1, bt262.2.2.2.2.2.2.2.2.2.2.2.2⟩ : S66)] : List (S66))) 0)) else (some (([] : List (S69)), ([] : List (S66)), 0, ([] : List (S84)), false)))
def laws_eqPut.f (a0_0 : Int) (a0_1 : Int) (a1_0 : Int) (a1_1 : Int) : Option (Bool) := if a0_0 = a1_0 then (if a0_1 = a1_1 then (some true) else (some false)) else (some false)
set_option maxHeartbeats 8000000 in
set_option maxRecDepth 100000 in
theorem laws_eqPut.calls (a0_0 : Int) (a0_1 : Int) (a1_0 : Int) (a1_1 : Int) (r : Bool) (w : World) (h : laws_eqPut.f a0_0 a0_1 a1_0 a1_1 = some r) :
    Calls Try.prog 97 #[.agg #[.int .i64 a0_0, .int .i64 a0_1], .agg #[.int .i64 a1_0, .int .i64 a1_1]] w fun e w' => e = .returned (.bool r) ∧ Below w.heap.size w w' := by
  have hu115 := Try.underlying115
  have HB := Aside0.mk (Below.refl w.heap.size w)
  have H : (if a0_0 = a1_0 then (if a0_1 = a1_1 then (some true) else (some false)) else (some false)) = some r := h
  clear h
  by_cases c3 : a0_0 = a1_0
  · rw [if_pos c3] at H
    have c3b0 : (a0_0 == a1_0) = true := beq_iff_eq.mpr c3
    have c3b1 : (a0_0 != a1_0) = false := bne_eq_false_iff_eq.mpr c3
    clear c3
    by_cases c4 : a0_1 = a1_1
    · rw [if_pos c4] at H
      have c4b0 : (a0_1 == a1_1) = true := beq_iff_eq.mpr c4
      have c4b1 : (a0_1 != a1_1) = false := bne_eq_false_iff_eq.mpr c4
      clear c4
      obtain rfl := Option.some.inj H
      go_enter Try.func97, Try.ntmps97
      go_wp2_with (first | ((with_reducible refine gate_dst (N := 2) rfl ?_); refine box_event ?hg (N := 2) ?hd (cs := #[.int .i64 a0_0, .int .i64 a0_1]) (t := 115) ?hr ?_; (case hd => rfl); (case hg => rfl); (case hr => first | (go_simp; done) | (go_simp; rfl)); intro gb291 hg w5 hbox hb; have n0_ := Aside0.mk (below_step (by repeat (first | (with_reducible first | exact HB.out | apply below_alloc | apply pw_below_drewN | apply below_drew1) | exact HB.out)) hb); have n1_ := Aside0.mk (hbox); have n2_ := Aside0.mk ((by rw [hg]; exact (below_size (by repeat (first | (with_reducible first | exact HB.out | apply below_alloc | apply pw_below_drewN | apply below_drew1) | exact HB.out))) : w.heap.size ≤ gb291)); have n3_ := Aside0.mk ((by rw [hg]; exact (below_size (by repeat (first | (with_reducible first | exact HB.out | apply below_alloc | apply pw_below_drewN | apply below_drew1) | exact HB.out))) : w.heap.size ≤ gb291)); clear HB; have HB := n0_; have BK291 := n1_; have GW291 := n2_; have GE291 := n3_; clear n0_ n1_ n2_ n3_; clear hb hbox hg) | ((with_reducible refine gate_dst (N := 3) rfl ?_); refine box_event ?hg (N := 3) ?hd (cs := #[.int .i64 a1_0, .int .i64 a1_1]) (t := 115) ?hr ?_; (case hd => rfl); (case hg => rfl); (case hr => first | (go_simp; done) | (go_simp; rfl)); intro gb292 hg w6 hbox hb; have n0_ := Aside0.mk (blk_below (g := gb291) (o := .cells #[.int .i64 a0_0, .int .i64 a0_1] 115 (0, 0)) (by (with_reducible repeat (first | refine blk_drewN ?_ _ | refine blk_drew ?_ | refine blk_alloc ?_ _)); exact BK291.out) hb); have n1_ := Aside0.mk (below_step (by repeat (first | (with_reducible first | exact HB.out | apply below_alloc | apply pw_below_drewN | apply below_drew1 | refine below_set ?_ GE291.out) | exact HB.out)) hb); have n2_ := Aside0.mk (hbox); have n3_ := Aside0.mk ((by rw [hg]; exact (below_size (by repeat (first | (with_reducible first | exact HB.out | apply below_alloc | apply pw_below_drewN | apply below_drew1 | refine below_set ?_ GE291.out) | exact HB.out))) : w.heap.size ≤ gb292)); have n4_ := Aside0.mk ((by rw [hg]; exact (below_size (by repeat (first | (with_reducible first | exact HB.out | apply below_alloc | apply pw_below_drewN | apply below_drew1 | refine below_set ?_ GE291.out) | exact HB.out))) : w.heap.size ≤ gb292)); have n5_ := Aside0.mk ((by rw [hg]; exact Nat.ne_of_lt (blk_lt (g := gb291) (o := .cells #[.int .i64 a0_0, .int .i64 a0_1] 115 (0, 0)) (by (with_reducible repeat (first | refine blk_drewN ?_ _ | refine blk_drew ?_ | refine blk_alloc ?_ _)); exact BK291.out)) : gb291 ≠ gb292)); have n6_ := Aside0.mk ((by rw [hg]; exact Nat.ne_of_gt (blk_lt (g := gb291) (o := .cells #[.int .i64 a0_0, .int .i64 a0_1] 115 (0, 0)) (by (with_reducible repeat (first | refine blk_drewN ?_ _ | refine blk_drew ?_ | refine blk_alloc ?_ _)); exact BK291.out)) : gb292 ≠ gb291)); clear BK291; clear HB; have BK291 := n0_; have HB := n1_; have BK292 := n2_; have GW292 := n3_; have GE292 := n4_; have NB291_292 := n5_; have NB292_291 := n6_; clear n0_ n1_ n2_ n3_ n4_ n5_ n6_; clear hb hbox hg; have hnb7 := NB291_292.out; have hnc7 := NB292_291.out; have hcz8_0 : w6.cell? ⟨gb291, 0, none⟩ = some (.int .i64 a0_0) := (blk_cell BK291.out 0).trans rfl; have hcz8_1 : w6.cell? ⟨gb291, 1, none⟩ = some (.int .i64 a0_1) := (blk_cell BK291.out 1).trans rfl; have hfz8_0 := blk_frozen BK291.out 0; have hfz8_1 := blk_frozen BK291.out 1; have hcz9_0 : w6.cell? ⟨gb292, 0, none⟩ = some (.int .i64 a1_0) := (blk_cell BK292.out 0).trans rfl; have hcz9_1 : w6.cell? ⟨gb292, 1, none⟩ = some (.int .i64 a1_1) := (blk_cell BK292.out 1).trans rfl; have hfz9_0 := blk_frozen BK292.out 0; have hfz9_1 := blk_frozen BK292.out 1))
      go_ret
      exact ⟨by first | rfl | (simp [errW_none, errW_some] <;> rfl) | (simp [*, errW_none, errW_some] <;> rfl), by repeat (first | (with_reducible first | exact HB.out | apply below_alloc | apply pw_below_drewN | apply below_drew1 | refine below_set ?_ GE291.out | refine below_set ?_ GE292.out) | exact HB.out)⟩
    · rw [if_neg c4] at H
      have c4b0 : (a0_1 == a1_1) = false := beq_eq_false_iff_ne.mpr c4
      have c4b1 : (a0_1 != a1_1) = true := bne_iff_ne.mpr c4
      obtain rfl := Option.some.inj H
      go_enter Try.func97, Try.ntmps97
      go_wp2_with (first | ((with_reducible refine gate_dst (N := 2) rfl ?_); refine box_event ?hg (N := 2) ?hd (cs := #[.int .i64 a0_0, .int .i64 a0_1]) (t := 115) ?hr ?_; (case hd => rfl); (case hg => rfl); (case hr => first | (go_simp; done) | (go_simp; rfl)); intro gb291 hg w10 hbox hb; have n0_ := Aside0.mk (below_step (by repeat (first | (with_reducible first | exact HB.out | apply below_alloc | apply pw_below_drewN | apply below_drew1) | exact HB.out)) hb); have n1_ := Aside0.mk (hbox); have n2_ := Aside0.mk ((by rw [hg]; exact (below_size (by repeat (first | (with_reducible first | exact HB.out | apply below_alloc | apply pw_below_drewN | apply below_drew1) | exact HB.out))) : w.heap.size ≤ gb291)); have n3_ := Aside0.mk ((by rw [hg]; exact (below_size (by repeat (first | (with_reducible first | exact HB.out | apply below_alloc | apply pw_below_drewN | apply below_drew1) | exact HB.out))) : w.heap.size ≤ gb291)); clear HB; have HB := n0_; have BK291 := n1_; have GW291 := n2_; have GE291 := n3_; clear n0_ n1_ n2_ n3_; clear hb hbox hg) | ((with_reducible refine gate_dst (N := 3) rfl ?_); refine box_event ?hg (N := 3) ?hd (cs := #[.int .i64 a1_0, .int .i64 a1_1]) (t := 115) ?hr ?_; (case hd => rfl); (case hg => rfl); (case hr => first | (go_simp; done) | (go_simp; rfl)); intro gb292 hg w11 hbox hb; have n0_ := Aside0.mk (blk_below (g := gb291) (o := .cells #[.int .i64 a0_0, .int .i64 a0_1] 115 (0, 0)) (by (with_reducible repeat (first | refine blk_drewN ?_ _ | refine blk_drew ?_ | refine blk_alloc ?_ _)); exact BK291.out) hb); have n1_ := Aside0.mk (below_step (by repeat (first | (with_reducible first | exact HB.out | apply below_alloc | apply pw_below_drewN | apply below_drew1 | refine below_set ?_ GE291.out) | exact HB.out)) hb); have n2_ := Aside0.mk (hbox); have n3_ := Aside0.mk ((by rw [hg]; exact (below_size (by repeat (first | (with_reducible first | exact HB.out | apply below_alloc | apply pw_below_drewN | apply below_drew1 | refine below_set ?_ GE291.out) | exact HB.out))) : w.heap.size ≤ gb292)); have n4_ := Aside0.mk ((by rw [hg]; exact (below_size (by repeat (first | (with_reducible first | exact HB.out | apply below_alloc | apply pw_below_drewN | apply below_drew1 | refine below_set ?_ GE291.out) | exact HB.out))) : w.heap.size ≤ gb292)); have n5_ := Aside0.mk ((by rw [hg]; exact Nat.ne_of_lt (blk_lt (g := gb291) (o := .cells #[.int .i64 a0_0, .int .i64 a0_1] 115 (0, 0)) (by (with_reducible repeat (first | refine blk_drewN ?_ _ | refine blk_drew ?_ | refine blk_alloc ?_ _)); exact BK291.out)) : gb291 ≠ gb292)); have n6_ := Aside0.mk ((by rw [hg]; exact Nat.ne_of_gt (blk_lt (g := gb291) (o := .cells #[.int .i64 a0_0, .int .i64 a0_1] 115 (0, 0)) (by (with_reducible repeat (first | refine blk_drewN ?_ _ | refine blk_drew ?_ | refine blk_alloc ?_ _)); exact BK291.out)) : gb292 ≠ gb291)); clear BK291; clear HB; have BK291 := n0_; have HB := n1_; have BK292 := n2_; have GW292 := n3_; have GE292 := n4_; have NB291_292 := n5_; have NB292_291 := n6_; clear n0_ n1_ n2_ n3_ n4_ n5_ n6_; clear hb hbox hg; have hnb12 := NB291_292.out; have hnc12 := NB292_291.out; have hcz13_0 : w11.cell? ⟨gb291, 0, none⟩ = some (.int .i64 a0_0) := (blk_cell BK291.out 0).trans rfl; have hcz13_1 : w11.cell? ⟨gb291, 1, none⟩ = some (.int .i64 a0_1) := (blk_cell BK291.out 1).trans rfl; have hfz13_0 := blk_frozen BK291.out 0; have hfz13_1 := blk_frozen BK291.out 1; have hcz14_0 : w11.cell? ⟨gb292, 0, none⟩ = some (.int .i64 a1_0) := (blk_cell BK292.out 0).trans rfl; have hcz14_1 : w11.cell? ⟨gb292, 1, none⟩ = some (.int .i64 a1_1) := (blk_cell BK292.out 1).trans rfl; have hfz14_0 := blk_frozen BK292.out 0; have hfz14_1 := blk_frozen BK292.out 1))
      go_ret
      exact ⟨by first | rfl | (simp [errW_none, errW_some] <;> rfl) | (simp [*, errW_none, errW_some] <;> rfl), by repeat (first | (with_reducible first | exact HB.out | apply below_alloc | apply pw_below_drewN | apply below_drew1 | refine below_set ?_ GE291.out | refine below_set ?_ GE292.out) | exact HB.out)⟩
  · rw [if_neg c3] at H
    have c3b0 : (a0_0 == a1_0) = false := beq_eq_false_iff_ne.mpr c3
    have c3b1 : (a0_0 != a1_0) = true := bne_iff_ne.mpr c3
    obtain rfl := Option.some.inj H
    go_enter Try.func97, Try.ntmps97
    go_wp2_with (first | ((with_reducible refine gate_dst (N := 2) rfl ?_); refine box_event ?hg (N := 2) ?hd (cs := #[.int .i64 a0_0, .int .i64 a0_1]) (t := 115) ?hr ?_; (case hd => rfl); (case hg => rfl); (case hr => first | (go_simp; done) | (go_simp; rfl)); intro gb291 hg w15 hbox hb; have n0_ := Aside0.mk (below_step (by repeat (first | (with_reducible first | exact HB.out | apply below_alloc | apply pw_below_drewN | apply below_drew1) | exact HB.out)) hb); have n1_ := Aside0.mk (hbox); have n2_ := Aside0.mk ((by rw [hg]; exact (below_size (by repeat (first | (with_reducible first | exact HB.out | apply below_alloc | apply pw_below_drewN | apply below_drew1) | exact HB.out))) : w.heap.size ≤ gb291)); have n3_ := Aside0.mk ((by rw [hg]; exact (below_size (by repeat (first | (with_reducible first | exact HB.out | apply below_alloc | apply pw_below_drewN | apply below_drew1) | exact HB.out))) : w.heap.size ≤ gb291)); clear HB; have HB := n0_; have BK291 := n1_; have GW291 := n2_; have GE291 := n3_; clear n0_ n1_ n2_ n3_; clear hb hbox hg) | ((with_reducible refine gate_dst (N := 3) rfl ?_); refine box_event ?hg (N := 3) ?hd (cs := #[.int .i64 a1_0, .int .i64 a1_1]) (t := 115) ?hr ?_; (case hd => rfl); (case hg => rfl); (case hr => first | (go_simp; done) | (go_simp; rfl)); intro gb292 hg w16 hbox hb; have n0_ := Aside0.mk (blk_below (g := gb291) (o := .cells #[.int .i64 a0_0, .int .i64 a0_1] 115 (0, 0)) (by (with_reducible repeat (first | refine blk_drewN ?_ _ | refine blk_drew ?_ | refine blk_alloc ?_ _)); exact BK291.out) hb); have n1_ := Aside0.mk (below_step (by repeat (first | (with_reducible first | exact HB.out | apply below_alloc | apply pw_below_drewN | apply below_drew1 | refine below_set ?_ GE291.out) | exact HB.out)) hb); have n2_ := Aside0.mk (hbox); have n3_ := Aside0.mk ((by rw [hg]; exact (below_size (by repeat (first | (with_reducible first | exact HB.out | apply below_alloc | apply pw_below_drewN | apply below_drew1 | refine below_set ?_ GE291.out) | exact HB.out))) : w.heap.size ≤ gb292)); have n4_ := Aside0.mk ((by rw [hg]; exact (below_size (by repeat (first | (with_reducible first | exact HB.out | apply below_alloc | apply pw_below_drewN | apply below_drew1 | refine below_set ?_ GE291.out) | exact HB.out))) : w.heap.size ≤ gb292)); have n5_ := Aside0.mk ((by rw [hg]; exact Nat.ne_of_lt (blk_lt (g := gb291) (o := .cells #[.int .i64 a0_0, .int .i64 a0_1] 115 (0, 0)) (by (with_reducible repeat (first | refine blk_drewN ?_ _ | refine blk_drew ?_ | refine blk_alloc ?_ _)); exact BK291.out)) : gb291 ≠ gb292)); have n6_ := Aside0.mk ((by rw [hg]; exact Nat.ne_of_gt (blk_lt (g := gb291) (o := .cells #[.int .i64 a0_0, .int .i64 a0_1] 115 (0, 0)) (by (with_reducible repeat (first | refine blk_drewN ?_ _ | refine blk_drew ?_ | refine blk_alloc ?_ _)); exact BK291.out)) : gb292 ≠ gb291)); clear BK291; clear HB; have BK291 := n0_; have HB := n1_; have BK292 := n2_; have GW292 := n3_; have GE292 := n4_; have NB291_292 := n5_; have NB292_291 := n6_; clear n0_ n1_ n2_ n3_ n4_ n5_ n6_; clear hb hbox hg; have hnb17 := NB291_292.out; have hnc17 := NB292_291.out; have hcz18_0 : w16.cell? ⟨gb291, 0, none⟩ = some (.int .i64 a0_0) := (blk_cell BK291.out 0).trans rfl; have hcz18_1 : w16.cell? ⟨gb291, 1, none⟩ = some (.int .i64 a0_1) := (blk_cell BK291.out 1).trans rfl; have hfz18_0 := blk_frozen BK291.out 0; have hfz18_1 := blk_frozen BK291.out 1; have hcz19_0 : w16.cell? ⟨gb292, 0, none⟩ = some (.int .i64 a1_0) := (blk_cell BK292.out 0).trans rfl; have hcz19_1 : w16.cell? ⟨gb292, 1, none⟩ = some (.int .i64 a1_1) := (blk_cell BK292.out 1).trans rfl; have hfz19_0 := blk_frozen BK292.out 0; have hfz19_1 := blk_frozen BK292.out 1))
    go_ret
    exact ⟨by first | rfl | (simp [errW_none, errW_some] <;> rfl) | (simp [*, errW_none, errW_some] <;> rfl), by repeat (first | (with_reducible first | exact HB.out | apply below_alloc | apply pw_below_drewN | apply below_drew1 | refine below_set ?_ GE291.out | refine below_set ?_ GE292.out) | exact HB.out)⟩
def laws_eqPutS.f (k : Nat) (l0 : List S115) (l1 : List S115) : Option Bool := if l0 = l1 then some true else none
set_option maxHeartbeats 4000000 in
set_option maxRecDepth 100000 in
theorem laws_eqPutS.calls (k : Nat) (A0 : Option Addr) (c0 : Nat) (l0 : List S115) (A1 : Option Addr) (c1 : Nat) (l1 : List S115) (r : Bool) (w : World) (hr0 : Kd.C k115 w A0 l0.length l0) (hc0 : l0.length ≤ c0) (hr1 : Kd.C k115 w A1 l1.length l1) (hc1 : l1.length ≤ c1) (h : laws_eqPutS.f k l0 l1 = some r) :
    Calls Try.prog 82 #[.slice A0 l0.length c0, .slice A1 l1.length c1] w fun e w' => e = .returned (.bool r) ∧ Below w.heap.size w w' := by
  unfold laws_eqPutS.f at h
  by_cases c : l0 = l1
  case neg => rw [if_neg c] at h; cases h
  rw [if_pos c] at h
  obtain rfl := Option.some.inj h
  subst c
  clear h
  have HM := Aside0.mk (show l0.length ≤ 9223372036854775807 from hr0.2.1)
  have HR0 := Aside0.mk hr0
  have HC0 := Aside0.mk hc0
  have HR1 := Aside0.mk hr1
  have HC1 := Aside0.mk hc1
  clear hr0 hc0 hr1 hc1
  have HB := Aside0.mk (Below.refl w.heap.size w)
  have d0 : ((l0.length : Int) != (l0.length : Int)) = false := by simp
  have d1 : (l0.length != l0.length) = false := by simp
  have hu3 := Try.underlying3
  have hu115 := Try.underlying115
  go_enter Try.func82, Try.ntmps82
  go_wp2
  go_loopw [5] (fun v5 wr => ∃ x : Int, v5 = .int .i64 x ∧ Aside0 (0 ≤ x ∧ x ≤ (l0.length : Nat)) ∧ Aside0 (Below w.heap.size w wr)) (fun v5 _ => l0.length - (intOf v5).toNat)
  case atStart => exact ⟨0, rfl, ⟨by omega, by omega⟩, HB⟩
  case round =>
    clear HB
    obtain ⟨x, rfl, HX, HB⟩ := hrel
    by_cases c0 : x < ((l0.length : Nat) : Int)
    · have c0b : decide (x < ((l0.length : Nat) : Int)) = true := decide_eq_true c0
      have hx0 := HX.out.1
      obtain ⟨ad0, e0, y0_0, y0_1⟩ := at_T115 (Kd.C_below HR0.out HB.out) x hx0 c0
      obtain ⟨ad1, e1, y1_0, y1_1⟩ := at_T115 (Kd.C_below HR1.out HB.out) x hx0 c0
      cases e0
      cases e1
      obtain ⟨p, hp⟩ : ∃ p, p = rd_T115 l0 x := ⟨_, rfl⟩
      rw [← hp] at y0_0 y0_1 y1_0 y1_1
      clear hp
      have HS := Aside0.mk (show ∀ w', Below wr.heap.size wr w' → (Below wr.heap.size wr w' ∧ w'.cell? (ad0.add (x.toNat * 2)) = some (.int .i64 p.f0) ∧ w'.cell? ⟨(ad0.add (x.toNat * 2)).block, (ad0.add (x.toNat * 2)).off + 1, none⟩ = some (.int .i64 p.f1) ∧ w'.cell? (ad1.add (x.toNat * 2)) = some (.int .i64 p.f0) ∧ w'.cell? ⟨(ad1.add (x.toNat * 2)).block, (ad1.add (x.toNat * 2)).off + 1, none⟩ = some (.int .i64 p.f1)) from fun w' hb => ⟨hb, pw_cell_below hb y0_0, pw_cell_below hb y0_1, pw_cell_below hb y1_0, pw_cell_below hb y1_1⟩)
      have HP := Aside0.mk c0
      have p0 := eq_true hx0
      have p1 := eq_true c0
      clear c0 hx0 y0_0 y0_1 y1_0 y1_1
      have HE := Aside0.mk (show laws_eqPut.f p.f0 p.f1 p.f0 p.f1 = some true by simp [laws_eqPut.f])
      obtain ⟨sb, s0_0, s0_1, s1_0, s1_1⟩ := HS.out wr (Below.refl _ _)
      go_wp2_with fail
      go_region_held3 (fun w' => Below wr.heap.size wr w' ∧ w'.cell? (ad0.add (x.toNat * 2)) = some (.int .i64 p.f0) ∧ w'.cell? ⟨(ad0.add (x.toNat * 2)).block, (ad0.add (x.toNat * 2)).off + 1, none⟩ = some (.int .i64 p.f1) ∧ w'.cell? (ad1.add (x.toNat * 2)) = some (.int .i64 p.f0) ∧ w'.cell? ⟨(ad1.add (x.toNat * 2)).block, (ad1.add (x.toNat * 2)).off + 1, none⟩ = some (.int .i64 p.f1)) (first | exact HS.out _ (below_drew (Below.refl _ _)) | exact HS.out _ (Below.refl _ _) | (refine HS.out _ ?_; first | exact below_step (And.left (by assumption)) (by assumption) | exact And.left (by assumption)) | go_keep) (first | (go_at_call 97; refine (laws_eqPut.calls p.f0 p.f1 p.f0 p.f1 true _  HE.out).mono ?_; rintro e wz ⟨rfl, hz_⟩))
      go_wp2
      go_roundw
      case rel =>
        have e1 : (wrap64 (x + 1)) = x + 1 := by have h1 := HX.out.1; have h2 := HP.out; have h3 := HM.out; unfold wrap64; omega
        refine ⟨_, rfl, ⟨?_⟩, ⟨?_⟩⟩
        · rw [e1]; exact ⟨by have := HX.out.1; omega, by have := HP.out; omega⟩
        · exact below_step HB.out (And.left (by assumption))
      case measure =>
        have h1 := HX.out.1
        have h2 := HP.out
        have h3 := HM.out
        have e1 : (wrap64 (x + 1)) = x + 1 := by unfold wrap64; omega
        rw [e1]
        simp [intOf]
        omega
    · have c0b : decide (x < ((l0.length : Nat) : Int)) = false := decide_eq_false c0
      clear c0
      go_wp2
      go_ret
      exact ⟨rfl, HB.out⟩
end Go.Proofs.Ytoeepmcaabmjkaa.QSN
namespace Go.Proofs.Ytoeepmcaabmjkaa.QSN
open Go.RowKit Go.Proofs.YtoeepmcaabmjkaaW.PrintWords Go.Proofs.YtoeepmcaabmjkaaW.PrintLast Go.Proofs.YtoeepmcaabmjkaaW.PrintMore
attribute [local go_sem] max2_int min2_int max_two min_two max_three min_three max_four min_four   -- for this text's walks alone
set_option linter.unusedVariables false
set_option linter.unusedSimpArgs false
def laws_eqEntry.f (k : Nat) (a0_0 : Int) (a0_1 : Int) (a0_2 : Int) (l0_3 : List S115) (l0_4 : List S115) (a0_5 : Int) (a1_0 : Int) (a1_1 : Int) (a1_2 : Int) (l1_3 : List S115) (l1_4 : List S115) (a1_5 : Int) : Option Bool := if a0_0 = a1_0 ∧ a0_1 = a1_1 ∧ a0_2 = a1_2 ∧ l0_3 = l1_3 ∧ l0_4 = l1_4 ∧ a0_5 = a1_5 then ((laws_eqPutS.f k l0_3 l0_3).bind fun b3 => (if b3 = true then ((laws_eqPutS.f k l0_4 l0_4).bind fun b4 => (if b4 = true then (some true) else (none))) else (none))) else none
set_option maxHeartbeats 4000000 in
set_option maxRecDepth 100000 in
theorem laws_eqEntry.calls (k : Nat) (a0_0 : Int) (a0_1 : Int) (a0_2 : Int) (A0_3 : Option Addr) (c0_3 : Nat) (l0_3 : List S115) (A0_4 : Option Addr) (c0_4 : Nat) (l0_4 : List S115) (a0_5 : Int) (a1_0 : Int) (a1_1 : Int) (a1_2 : Int) (A1_3 : Option Addr) (c1_3 : Nat) (l1_3 : List S115) (A1_4 : Option Addr) (c1_4 : Nat) (l1_4 : List S115) (a1_5 : Int) (r : Bool) (w : World) (hr0_3 : Kd.C k115 w A0_3 l0_3.length l0_3) (hc0_3 : l0_3.length ≤ c0_3) (hr0_4 : Kd.C k115 w A0_4 l0_4.length l0_4) (hc0_4 : l0_4.length ≤ c0_4) (hr1_3 : Kd.C k115 w A1_3 l1_3.length l1_3) (hc1_3 : l1_3.length ≤ c1_3) (hr1_4 : Kd.C k115 w A1_4 l1_4.length l1_4) (hc1_4 : l1_4.length ≤ c1_4) (h : laws_eqEntry.f k a0_0 a0_1 a0_2 l0_3 l0_4 a0_5 a1_0 a1_1 a1_2 l1_3 l1_4 a1_5 = some r) :
    Calls Try.prog 53 #[.agg #[.int .i64 a0_0, .int .i64 a0_1, .int .i64 a0_2, .slice A0_3 l0_3.length c0_3, .slice A0_4 l0_4.length c0_4, .int .i64 a0_5], .agg #[.int .i64 a1_0, .int .i64 a1_1, .int .i64 a1_2, .slice A1_3 l1_3.length c1_3, .slice A1_4 l1_4.length c1_4, .int .i64 a1_5]] w fun e w' => e = .returned (.bool r) ∧ Below w.heap.size w w' := by
  unfold laws_eqEntry.f at h
  by_cases c : a0_0 = a1_0 ∧ a0_1 = a1_1 ∧ a0_2 = a1_2 ∧ l0_3 = l1_3 ∧ l0_4 = l1_4 ∧ a0_5 = a1_5
  case neg => rw [if_neg c] at h; cases h
  rw [if_pos c] at h
  obtain ⟨rfl, rfl, rfl, rfl, rfl, rfl⟩ := c
  obtain ⟨b3, hq3, h⟩ := Option.bind_eq_some_iff.1 h
  cases b3 with
  | false => simp at h
  | true =>
  rw [if_pos rfl] at h
  have HQ3 := Aside0.mk hq3
  clear hq3
  obtain ⟨b4, hq4, h⟩ := Option.bind_eq_some_iff.1 h
  cases b4 with
  | false => simp at h
  | true =>
  rw [if_pos rfl] at h
  have HQ4 := Aside0.mk hq4
  clear hq4
  obtain rfl := Option.some.inj h
  clear h
  have HR0_3 := Aside0.mk hr0_3
  have HC0_3 := Aside0.mk hc0_3
  clear hr0_3 hc0_3
  have HR0_4 := Aside0.mk hr0_4
  have HC0_4 := Aside0.mk hc0_4
  clear hr0_4 hc0_4
  have HR1_3 := Aside0.mk hr1_3
  have HC1_3 := Aside0.mk hc1_3
  clear hr1_3 hc1_3
  have HR1_4 := Aside0.mk hr1_4
  have HC1_4 := Aside0.mk hc1_4
  clear hr1_4 hc1_4
  have hu3 := Try.underlying3
  have hu64 := Try.underlying64
  have hu84 := Try.underlying84
  have HL0 := Aside0.mk (show Below w.heap.size w ((w.alloc (.cells #[.int .i64 a0_0, .int .i64 a0_1, .int .i64 a0_2, .slice A0_3 l0_3.length c0_3, .slice A0_4 l0_4.length c0_4, .int .i64 a0_5] 84)).alloc (.cells #[.int .i64 a0_0, .int .i64 a0_1, .int .i64 a0_2, .slice A1_3 l0_3.length c1_3, .slice A1_4 l0_4.length c1_4, .int .i64 a0_5] 84)) from below_alloc (below_alloc (Below.refl _ _) _) _)
  have HZ0 := Aside0.mk (show w.heap.size + 2 ≤ ((w.alloc (.cells #[.int .i64 a0_0, .int .i64 a0_1, .int .i64 a0_2, .slice A0_3 l0_3.length c0_3, .slice A0_4 l0_4.length c0_4, .int .i64 a0_5] 84)).alloc (.cells #[.int .i64 a0_0, .int .i64 a0_1, .int .i64 a0_2, .slice A1_3 l0_3.length c1_3, .slice A1_4 l0_4.length c1_4, .int .i64 a0_5] 84)).heap.size by simp)
  have HA0 := Aside0.mk (show ((w.alloc (.cells #[.int .i64 a0_0, .int .i64 a0_1, .int .i64 a0_2, .slice A0_3 l0_3.length c0_3, .slice A0_4 l0_4.length c0_4, .int .i64 a0_5] 84)).alloc (.cells #[.int .i64 a0_0, .int .i64 a0_1, .int .i64 a0_2, .slice A1_3 l0_3.length c1_3, .slice A1_4 l0_4.length c1_4, .int .i64 a0_5] 84)).heap[w.heap.size]? = some (.cells #[.int .i64 a0_0, .int .i64 a0_1, .int .i64 a0_2, .slice A0_3 l0_3.length c0_3, .slice A0_4 l0_4.length c0_4, .int .i64 a0_5] 84 (0, 0)) from blk_alloc (heap_alloc_new w _) _)
  have HD0 := Aside0.mk (show ((w.alloc (.cells #[.int .i64 a0_0, .int .i64 a0_1, .int .i64 a0_2, .slice A0_3 l0_3.length c0_3, .slice A0_4 l0_4.length c0_4, .int .i64 a0_5] 84)).alloc (.cells #[.int .i64 a0_0, .int .i64 a0_1, .int .i64 a0_2, .slice A1_3 l0_3.length c1_3, .slice A1_4 l0_4.length c1_4, .int .i64 a0_5] 84)).heap[w.heap.size + 1]? = some (.cells #[.int .i64 a0_0, .int .i64 a0_1, .int .i64 a0_2, .slice A1_3 l0_3.length c1_3, .slice A1_4 l0_4.length c1_4, .int .i64 a0_5] 84 (0, 0)) from by have := heap_alloc_new (w.alloc (.cells #[.int .i64 a0_0, .int .i64 a0_1, .int .i64 a0_2, .slice A0_3 l0_3.length c0_3, .slice A0_4 l0_4.length c0_4, .int .i64 a0_5] 84)) (.cells #[.int .i64 a0_0, .int .i64 a0_1, .int .i64 a0_2, .slice A1_3 l0_3.length c1_3, .slice A1_4 l0_4.length c1_4, .int .i64 a0_5] 84); simpa using this)
  go_enter Try.func53, Try.ntmps53
  go_wp2_with fail
  refine (laws_eqPutS.calls k _ _ _ _ _ _ true _ (Kd.C_below HR0_3.out HL0.out) HC0_3.out (Kd.C_below HR1_3.out HL0.out) HC1_3.out HQ3.out).mono ?_
  rintro e w1 ⟨rfl, hb_⟩
  have hb0 : Below _ _ w1 := (by first | exact hb_ | exact hb_.below)
  clear hb_
  have HL1 := Aside0.mk (show Below w.heap.size w w1 from below_then HL0.out HL0.out.size hb0)
  have HZ1 := Aside0.mk (Nat.le_trans HZ0.out hb0.size)
  have HA1 := Aside0.mk ((hb0.block _ (by have := HZ0.out; omega)).trans HA0.out)
  have HD1 := Aside0.mk ((hb0.block _ (by have := HZ0.out; omega)).trans HD0.out)
  clear hb0
  have hx4 : w1.cell? ⟨w.heap.size, 4, none⟩ = some (.slice A0_4 l0_4.length c0_4) := (blk_cell HA1.out 4).trans rfl
  have hy4 : w1.cell? ⟨w.heap.size + 1, 4, none⟩ = some (.slice A1_4 l0_4.length c1_4) := (blk_cell HD1.out 4).trans rfl
  have hx5 : w1.cell? ⟨w.heap.size, 5, none⟩ = some (.int .i64 a0_5) := (blk_cell HA1.out 5).trans rfl
  have hy5 : w1.cell? ⟨w.heap.size + 1, 5, none⟩ = some (.int .i64 a0_5) := (blk_cell HD1.out 5).trans rfl
  go_wp2_with fail
  refine (laws_eqPutS.calls k _ _ _ _ _ _ true _ (Kd.C_below HR0_4.out HL1.out) HC0_4.out (Kd.C_below HR1_4.out HL1.out) HC1_4.out HQ4.out).mono ?_
  rintro e w2 ⟨rfl, hb_⟩
  have hb1 : Below _ _ w2 := (by first | exact hb_ | exact hb_.below)
  clear hb_
  have HL2 := Aside0.mk (show Below w.heap.size w w2 from below_then HL1.out HL1.out.size hb1)
  have HZ2 := Aside0.mk (Nat.le_trans HZ1.out hb1.size)
  have HA2 := Aside0.mk ((hb1.block _ (by have := HZ1.out; omega)).trans HA1.out)
  have HD2 := Aside0.mk ((hb1.block _ (by have := HZ1.out; omega)).trans HD1.out)
  clear hb1
  clear hx5 hy5
  clear hx4 hy4
  have hx5 : w2.cell? ⟨w.heap.size, 5, none⟩ = some (.int .i64 a0_5) := (blk_cell HA2.out 5).trans rfl
  have hy5 : w2.cell? ⟨w.heap.size + 1, 5, none⟩ = some (.int .i64 a0_5) := (blk_cell HD2.out 5).trans rfl
  go_wp2
  go_ret
  exact ⟨rfl, HL2.out⟩
def laws_eqEntryS.f (k : Nat) (l0 : List S84) (l1 : List S84) : Option Bool := if l0 = l1 then some true else none
set_option maxHeartbeats 4000000 in
set_option maxRecDepth 100000 in
theorem laws_eqEntryS.calls (k : Nat) (A0 : Option Addr) (c0 : Nat) (l0 : List S84) (A1 : Option Addr) (c1 : Nat) (l1 : List S84) (r : Bool) (w : World) (hr0 : Kd.C k84 w A0 l0.length l0) (hc0 : l0.length ≤ c0) (hr1 : Kd.C k84 w A1 l1.length l1) (hc1 : l1.length ≤ c1) (h : laws_eqEntryS.f k l0 l1 = some r) :
    Calls Try.prog 22 #[.slice A0 l0.length c0, .slice A1 l1.length c1] w fun e w' => e = .returned (.bool r) ∧ Below w.heap.size w w' := by
  unfold laws_eqEntryS.f at h
  by_cases c : l0 = l1
  case neg => rw [if_neg c] at h; cases h
  rw [if_pos c] at h
  obtain rfl := Option.some.inj h
  subst c
  clear h
  have HM := Aside0.mk (show l0.length ≤ 9223372036854775807 from hr0.2.1)
  have HR0 := Aside0.mk hr0
  have HC0 := Aside0.mk hc0
  have HR1 := Aside0.mk hr1
  have HC1 := Aside0.mk hc1
  clear hr0 hc0 hr1 hc1
  have HB := Aside0.mk (Below.refl w.heap.size w)
  have d0 : ((l0.length : Int) != (l0.length : Int)) = false := by simp
  have d1 : (l0.length != l0.length) = false := by simp
  have hu3 := Try.underlying3
  have hu64 := Try.underlying64
  have hu84 := Try.underlying84
  go_enter Try.func22, Try.ntmps22
  go_wp2
  go_loopw [5] (fun v5 wr => ∃ x : Int, v5 = .int .i64 x ∧ Aside0 (0 ≤ x ∧ x ≤ (l0.length : Nat)) ∧ Aside0 (Below w.heap.size w wr)) (fun v5 _ => l0.length - (intOf v5).toNat)
  case atStart => exact ⟨0, rfl, ⟨by omega, by omega⟩, HB⟩
  case round =>
    clear HB
    obtain ⟨x, rfl, HX, HB⟩ := hrel
    by_cases c0 : x < ((l0.length : Nat) : Int)
    · have c0b : decide (x < ((l0.length : Nat) : Int)) = true := decide_eq_true c0
      have hx0 := HX.out.1
      obtain ⟨ad0, B0_3, b0_3, B0_4, b0_4, e0, y0_0, y0_1, y0_2, y0_3, y0_4, y0_5, u0_3, g0_3, u0_4, g0_4⟩ := at_T84 (Kd.C_below HR0.out HB.out) x hx0 c0
      obtain ⟨ad1, B1_3, b1_3, B1_4, b1_4, e1, y1_0, y1_1, y1_2, y1_3, y1_4, y1_5, u1_3, g1_3, u1_4, g1_4⟩ := at_T84 (Kd.C_below HR1.out HB.out) x hx0 c0
      cases e0
      cases e1
      obtain ⟨p, hp⟩ : ∃ p, p = rd_T84 l0 x := ⟨_, rfl⟩
      rw [← hp] at y0_0 y0_1 y0_2 y0_3 y0_4 y0_5 y1_0 y1_1 y1_2 y1_3 y1_4 y1_5 u0_3 g0_3 u0_4 g0_4 u1_3 g1_3 u1_4 g1_4
      clear hp
      have HS := Aside0.mk (show ∀ w', Below wr.heap.size wr w' → (Below wr.heap.size wr w' ∧ w'.cell? (ad0.add (x.toNat * 6)) = some (.int .i64 p.f0) ∧ w'.cell? ⟨(ad0.add (x.toNat * 6)).block, (ad0.add (x.toNat * 6)).off + 1, none⟩ = some (.int .i64 p.f1) ∧ w'.cell? ⟨(ad0.add (x.toNat * 6)).block, (ad0.add (x.toNat * 6)).off + 2, none⟩ = some (.int .i64 p.f2) ∧ w'.cell? ⟨(ad0.add (x.toNat * 6)).block, (ad0.add (x.toNat * 6)).off + 3, none⟩ = some (.slice B0_3 p.f3.length b0_3) ∧ w'.cell? ⟨(ad0.add (x.toNat * 6)).block, (ad0.add (x.toNat * 6)).off + 4, none⟩ = some (.slice B0_4 p.f4.length b0_4) ∧ w'.cell? ⟨(ad0.add (x.toNat * 6)).block, (ad0.add (x.toNat * 6)).off + 5, none⟩ = some (.int .i64 p.f5) ∧ w'.cell? (ad1.add (x.toNat * 6)) = some (.int .i64 p.f0) ∧ w'.cell? ⟨(ad1.add (x.toNat * 6)).block, (ad1.add (x.toNat * 6)).off + 1, none⟩ = some (.int .i64 p.f1) ∧ w'.cell? ⟨(ad1.add (x.toNat * 6)).block, (ad1.add (x.toNat * 6)).off + 2, none⟩ = some (.int .i64 p.f2) ∧ w'.cell? ⟨(ad1.add (x.toNat * 6)).block, (ad1.add (x.toNat * 6)).off + 3, none⟩ = some (.slice B1_3 p.f3.length b1_3) ∧ w'.cell? ⟨(ad1.add (x.toNat * 6)).block, (ad1.add (x.toNat * 6)).off + 4, none⟩ = some (.slice B1_4 p.f4.length b1_4) ∧ w'.cell? ⟨(ad1.add (x.toNat * 6)).block, (ad1.add (x.toNat * 6)).off + 5, none⟩ = some (.int .i64 p.f5)) from fun w' hb => ⟨hb, pw_cell_below hb y0_0, pw_cell_below hb y0_1, pw_cell_below hb y0_2, pw_cell_below hb y0_3, pw_cell_below hb y0_4, pw_cell_below hb y0_5, pw_cell_below hb y1_0, pw_cell_below hb y1_1, pw_cell_below hb y1_2, pw_cell_below hb y1_3, pw_cell_below hb y1_4, pw_cell_below hb y1_5⟩)
      have U0_3 := Aside0.mk u0_3
      have G0_3 := Aside0.mk g0_3
      clear u0_3 g0_3
      have U0_4 := Aside0.mk u0_4
      have G0_4 := Aside0.mk g0_4
      clear u0_4 g0_4
      have U1_3 := Aside0.mk u1_3
      have G1_3 := Aside0.mk g1_3
      clear u1_3 g1_3
      have U1_4 := Aside0.mk u1_4
      have G1_4 := Aside0.mk g1_4
      clear u1_4 g1_4
      have HP := Aside0.mk c0
      have p0 := eq_true hx0
      have p1 := eq_true c0
      clear c0 hx0 y0_0 y0_1 y0_2 y0_3 y0_4 y0_5 y1_0 y1_1 y1_2 y1_3 y1_4 y1_5
      have HE := Aside0.mk (show laws_eqEntry.f k p.f0 p.f1 p.f2 p.f3 p.f4 p.f5 p.f0 p.f1 p.f2 p.f3 p.f4 p.f5 = some true by simp [laws_eqEntry.f, laws_eqPutS.f])
      obtain ⟨sb, s0_0, s0_1, s0_2, s0_3, s0_4, s0_5, s1_0, s1_1, s1_2, s1_3, s1_4, s1_5⟩ := HS.out wr (Below.refl _ _)
      go_wp2_with fail
      go_region_held3 (fun w' => Below wr.heap.size wr w' ∧ w'.cell? (ad0.add (x.toNat * 6)) = some (.int .i64 p.f0) ∧ w'.cell? ⟨(ad0.add (x.toNat * 6)).block, (ad0.add (x.toNat * 6)).off + 1, none⟩ = some (.int .i64 p.f1) ∧ w'.cell? ⟨(ad0.add (x.toNat * 6)).block, (ad0.add (x.toNat * 6)).off + 2, none⟩ = some (.int .i64 p.f2) ∧ w'.cell? ⟨(ad0.add (x.toNat * 6)).block, (ad0.add (x.toNat * 6)).off + 3, none⟩ = some (.slice B0_3 p.f3.length b0_3) ∧ w'.cell? ⟨(ad0.add (x.toNat * 6)).block, (ad0.add (x.toNat * 6)).off + 4, none⟩ = some (.slice B0_4 p.f4.length b0_4) ∧ w'.cell? ⟨(ad0.add (x.toNat * 6)).block, (ad0.add (x.toNat * 6)).off + 5, none⟩ = some (.int .i64 p.f5) ∧ w'.cell? (ad1.add (x.toNat * 6)) = some (.int .i64 p.f0) ∧ w'.cell? ⟨(ad1.add (x.toNat * 6)).block, (ad1.add (x.toNat * 6)).off + 1, none⟩ = some (.int .i64 p.f1) ∧ w'.cell? ⟨(ad1.add (x.toNat * 6)).block, (ad1.add (x.toNat * 6)).off + 2, none⟩ = some (.int .i64 p.f2) ∧ w'.cell? ⟨(ad1.add (x.toNat * 6)).block, (ad1.add (x.toNat * 6)).off + 3, none⟩ = some (.slice B1_3 p.f3.length b1_3) ∧ w'.cell? ⟨(ad1.add (x.toNat * 6)).block, (ad1.add (x.toNat * 6)).off + 4, none⟩ = some (.slice B1_4 p.f4.length b1_4) ∧ w'.cell? ⟨(ad1.add (x.toNat * 6)).block, (ad1.add (x.toNat * 6)).off + 5, none⟩ = some (.int .i64 p.f5)) (first | exact HS.out _ (below_drew (Below.refl _ _)) | exact HS.out _ (Below.refl _ _) | (refine HS.out _ ?_; first | exact below_step (And.left (by assumption)) (by assumption) | exact And.left (by assumption)) | go_keep) (first | (go_at_call 53; refine (laws_eqEntry.calls k p.f0 p.f1 p.f2 B0_3 b0_3 p.f3 B0_4 b0_4 p.f4 p.f5 p.f0 p.f1 p.f2 B1_3 b1_3 p.f3 B1_4 b1_4 p.f4 p.f5 true _ (by exact Kd.C_below G0_3.out (And.left (by assumption))) U0_3.out (by exact Kd.C_below G0_4.out (And.left (by assumption))) U0_4.out (by exact Kd.C_below G1_3.out (And.left (by assumption))) U1_3.out (by exact Kd.C_below G1_4.out (And.left (by assumption))) U1_4.out HE.out).mono ?_; rintro e wz ⟨rfl, hz_⟩))
      go_wp2
      go_roundw
      case rel =>
        have e1 : (wrap64 (x + 1)) = x + 1 := by have h1 := HX.out.1; have h2 := HP.out; have h3 := HM.out; unfold wrap64; omega
        refine ⟨_, rfl, ⟨?_⟩, ⟨?_⟩⟩
        · rw [e1]; exact ⟨by have := HX.out.1; omega, by have := HP.out; omega⟩
        · exact below_step HB.out (And.left (by assumption))
      case measure =>
        have h1 := HX.out.1
        have h2 := HP.out
        have h3 := HM.out
        have e1 : (wrap64 (x + 1)) = x + 1 := by unfold wrap64; omega
        rw [e1]
        simp [intOf]
        omega
    · have c0b : decide (x < ((l0.length : Nat) : Int)) = false := decide_eq_false c0
      clear c0
      go_wp2
      go_ret
      exact ⟨rfl, HB.out⟩
def laws_eqCell.f (a0_0 : Int) (a0_1 : Int) (a0_2 : Int) (a1_0 : Int) (a1_1 : Int) (a1_2 : Int) : Option (Bool) := if a0_0 = a1_0 then (if a0_1 = a1_1 then (if a0_2 = a1_2 then (some true) else (some false)) else (some false)) else (some false)
set_option maxHeartbeats 8000000 in
set_option maxRecDepth 100000 in
theorem laws_eqCell.calls (a0_0 : Int) (a0_1 : Int) (a0_2 : Int) (a1_0 : Int) (a1_1 : Int) (a1_2 : Int) (r : Bool) (w : World) (h : laws_eqCell.f a0_0 a0_1 a0_2 a1_0 a1_1 a1_2 = some r) :
    Calls Try.prog 73 #[.agg #[.int .i64 a0_0, .int .i64 a0_1, .int .i64 a0_2], .agg #[.int .i64 a1_0, .int .i64 a1_1, .int .i64 a1_2]] w fun e w' => e = .returned (.bool r) ∧ Below w.heap.size w w' := by
  have hu69 := Try.underlying69
  have HB := Aside0.mk (Below.refl w.heap.size w)
  have H : (if a0_0 = a1_0 then (if a0_1 = a1_1 then (if a0_2 = a1_2 then (some true) else (some false)) else (some false)) else (some false)) = some r := h
  clear h
  by_cases c3 : a0_0 = a1_0
  · rw [if_pos c3] at H
    have c3b0 : (a0_0 == a1_0) = true := beq_iff_eq.mpr c3
    have c3b1 : (a0_0 != a1_0) = false := bne_eq_false_iff_eq.mpr c3
    clear c3
    by_cases c4 : a0_1 = a1_1
    · rw [if_pos c4] at H
      have c4b0 : (a0_1 == a1_1) = true := beq_iff_eq.mpr c4
      have c4b1 : (a0_1 != a1_1) = false := bne_eq_false_iff_eq.mpr c4
      clear c4
      by_cases c5 : a0_2 = a1_2
      · rw [if_pos c5] at H
        have c5b0 : (a0_2 == a1_2) = true := beq_iff_eq.mpr c5
        have c5b1 : (a0_2 != a1_2) = false := bne_eq_false_iff_eq.mpr c5
        clear c5
        obtain rfl := Option.some.inj H
        go_enter Try.func73, Try.ntmps73
        go_wp2_with (first | ((with_reducible refine gate_dst (N := 2) rfl ?_); refine box_event ?hg (N := 2) ?hd (cs := #[.int .i64 a0_0, .int .i64 a0_1, .int .i64 a0_2]) (t := 69) ?hr ?_; (case hd => rfl); (case hg => rfl); (case hr => first | (go_simp; done) | (go_simp; rfl)); intro gb293 hg w6 hbox hb; have n0_ := Aside0.mk (below_step (by repeat (first | (with_reducible first | exact HB.out | apply below_alloc | apply pw_below_drewN | apply below_drew1) | exact HB.out)) hb); have n1_ := Aside0.mk (hbox); have n2_ := Aside0.mk ((by rw [hg]; exact (below_size (by repeat (first | (with_reducible first | exact HB.out | apply below_alloc | apply pw_below_drewN | apply below_drew1) | exact HB.out))) : w.heap.size ≤ gb293)); have n3_ := Aside0.mk ((by rw [hg]; exact (below_size (by repeat (first | (with_reducible first | exact HB.out | apply below_alloc | apply pw_below_drewN | apply below_drew1) | exact HB.out))) : w.heap.size ≤ gb293)); clear HB; have HB := n0_; have BK293 := n1_; have GW293 := n2_; have GE293 := n3_; clear n0_ n1_ n2_ n3_; clear hb hbox hg) | ((with_reducible refine gate_dst (N := 3) rfl ?_); refine box_event ?hg (N := 3) ?hd (cs := #[.int .i64 a1_0, .int .i64 a1_1, .int .i64 a1_2]) (t := 69) ?hr ?_; (case hd => rfl); (case hg => rfl); (case hr => first | (go_simp; done) | (go_simp; rfl)); intro gb294 hg w7 hbox hb; have n0_ := Aside0.mk (blk_below (g := gb293) (o := .cells #[.int .i64 a0_0, .int .i64 a0_1, .int .i64 a0_2] 69 (0, 0)) (by (with_reducible repeat (first | refine blk_drewN ?_ _ | refine blk_drew ?_ | refine blk_alloc ?_ _)); exact BK293.out) hb); have n1_ := Aside0.mk (below_step (by repeat (first | (with_reducible first | exact HB.out | apply below_alloc | apply pw_below_drewN | apply below_drew1 | refine below_set ?_ GE293.out) | exact HB.out)) hb); have n2_ := Aside0.mk (hbox); have n3_ := Aside0.mk ((by rw [hg]; exact (below_size (by repeat (first | (with_reducible first | exact HB.out | apply below_alloc | apply pw_below_drewN | apply below_drew1 | refine below_set ?_ GE293.out) | exact HB.out))) : w.heap.size ≤ gb294)); have n4_ := Aside0.mk ((by rw [hg]; exact (below_size (by repeat (first | (with_reducible first | exact HB.out | apply below_alloc | apply pw_below_drewN | apply below_drew1 | refine below_set ?_ GE293.out) | exact HB.out))) : w.heap.size ≤ gb294)); have n5_ := Aside0.mk ((by rw [hg]; exact Nat.ne_of_lt (blk_lt (g := gb293) (o := .cells #[.int .i64 a0_0, .int .i64 a0_1, .int .i64 a0_2] 69 (0, 0)) (by (with_reducible repeat (first | refine blk_drewN ?_ _ | refine blk_drew ?_ | refine blk_alloc ?_ _)); exact BK293.out)) : gb293 ≠ gb294)); have n6_ := Aside0.mk ((by rw [hg]; exact Nat.ne_of_gt (blk_lt (g := gb293) (o := .cells #[.int .i64 a0_0, .int .i64 a0_1, .int .i64 a0_2] 69 (0, 0)) (by (with_reducible repeat (first | refine blk_drewN ?_ _ | refine blk_drew ?_ | refine blk_alloc ?_ _)); exact BK293.out)) : gb294 ≠ gb293)); clear BK293; clear HB; have BK293 := n0_; have HB := n1_; have BK294 := n2_; have GW294 := n3_; have GE294 := n4_; have NB293_294 := n5_; have NB294_293 := n6_; clear n0_ n1_ n2_ n3_ n4_ n5_ n6_; clear hb hbox hg; have hnb8 := NB293_294.out; have hnc8 := NB294_293.out; have hcz9_0 : w7.cell? ⟨gb293, 0, none⟩ = some (.int .i64 a0_0) := (blk_cell BK293.out 0).trans rfl; have hcz9_1 : w7.cell? ⟨gb293, 1, none⟩ = some (.int .i64 a0_1) := (blk_cell BK293.out 1).trans rfl; have hcz9_2 : w7.cell? ⟨gb293, 2, none⟩ = some (.int .i64 a0_2) := (blk_cell BK293.out 2).trans rfl; have hfz9_0 := blk_frozen BK293.out 0; have hfz9_1 := blk_frozen BK293.out 1; have hfz9_2 := blk_frozen BK293.out 2; have hcz10_0 : w7.cell? ⟨gb294, 0, none⟩ = some (.int .i64 a1_0) := (blk_cell BK294.out 0).trans rfl; have hcz10_1 : w7.cell? ⟨gb294, 1, none⟩ = some (.int .i64 a1_1) := (blk_cell BK294.out 1).trans rfl; have hcz10_2 : w7.cell? ⟨gb294, 2, none⟩ = some (.int .i64 a1_2) := (blk_cell BK294.out 2).trans rfl; have hfz10_0 := blk_frozen BK294.out 0; have hfz10_1 := blk_frozen BK294.out 1; have hfz10_2 := blk_frozen BK294.out 2))
        go_ret
        exact ⟨by first | rfl | (simp [errW_none, errW_some] <;> rfl) | (simp [*, errW_none, errW_some] <;> rfl), by repeat (first | (with_reducible first | exact HB.out | apply below_alloc | apply pw_below_drewN | apply below_drew1 | refine below_set ?_ GE293.out | refine below_set ?_ GE294.out) | exact HB.out)⟩
      · rw [if_neg c5] at H
        have c5b0 : (a0_2 == a1_2) = false := beq_eq_false_iff_ne.mpr c5
        have c5b1 : (a0_2 != a1_2) = true := bne_iff_ne.mpr c5
        obtain rfl := Option.some.inj H
        go_enter Try.func73, Try.ntmps73
        go_wp2_with (first | ((with_reducible refine gate_dst (N := 2) rfl ?_); refine box_event ?hg (N := 2) ?hd (cs := #[.int .i64 a0_0, .int .i64 a0_1, .int .i64 a0_2]) (t := 69) ?hr ?_; (case hd => rfl); (case hg => rfl); (case hr => first | (go_simp; done) | (go_simp; rfl)); intro gb293 hg w11 hbox hb; have n0_ := Aside0.mk (below_step (by repeat (first | (with_reducible first | exact HB.out | apply below_alloc | apply pw_below_drewN | apply below_drew1) | exact HB.out)) hb); have n1_ := Aside0.mk (hbox); have n2_ := Aside0.mk ((by rw [hg]; exact (below_size (by repeat (first | (with_reducible first | exact HB.out | apply below_alloc | apply pw_below_drewN | apply below_drew1) | exact HB.out))) : w.heap.size ≤ gb293)); have n3_ := Aside0.mk ((by rw [hg]; exact (below_size (by repeat (first | (with_reducible first | exact HB.out | apply below_alloc | apply pw_below_drewN | apply below_drew1) | exact HB.out))) : w.heap.size ≤ gb293)); clear HB; have HB := n0_; have BK293 := n1_; have GW293 := n2_; have GE293 := n3_; clear n0_ n1_ n2_ n3_; clear hb hbox hg) | ((with_reducible refine gate_dst (N := 3) rfl ?_); refine box_event ?hg (N := 3) ?hd (cs := #[.int .i64 a1_0, .int .i64 a1_1, .int .i64 a1_2]) (t := 69) ?hr ?_; (case hd => rfl); (case hg => rfl); (case hr => first | (go_simp; done) | (go_simp; rfl)); intro gb294 hg w12 hbox hb; have n0_ := Aside0.mk (blk_below (g := gb293) (o := .cells #[.int .i64 a0_0, .int .i64 a0_1, .int .i64 a0_2] 69 (0, 0)) (by (with_reducible repeat (first | refine blk_drewN ?_ _ | refine blk_drew ?_ | refine blk_alloc ?_ _)); exact BK293.out) hb); have n1_ := Aside0.mk (below_step (by repeat (first | (with_reducible first | exact HB.out | apply below_alloc | apply pw_below_drewN | apply below_drew1 | refine below_set ?_ GE293.out) | exact HB.out)) hb); have n2_ := Aside0.mk (hbox); have n3_ := Aside0.mk ((by rw [hg]; exact (below_size (by repeat (first | (with_reducible first | exact HB.out | apply below_alloc | apply pw_below_drewN | apply below_drew1 | refine below_set ?_ GE293.out) | exact HB.out))) : w.heap.size ≤ gb294)); have n4_ := Aside0.mk ((by rw [hg]; exact (below_size (by repeat (first | (with_reducible first | exact HB.out | apply below_alloc | apply pw_below_drewN | apply below_drew1 | refine below_set ?_ GE293.out) | exact HB.out))) : w.heap.size ≤ gb294)); have n5_ := Aside0.mk ((by rw [hg]; exact Nat.ne_of_lt (blk_lt (g := gb293) (o := .cells #[.int .i64 a0_0, .int .i64 a0_1, .int .i64 a0_2] 69 (0, 0)) (by (with_reducible repeat (first | refine blk_drewN ?_ _ | refine blk_drew ?_ | refine blk_alloc ?_ _)); exact BK293.out)) : gb293 ≠ gb294)); have n6_ := Aside0.mk ((by rw [hg]; exact Nat.ne_of_gt (blk_lt (g := gb293) (o := .cells #[.int .i64 a0_0, .int .i64 a0_1, .int .i64 a0_2] 69 (0, 0)) (by (with_reducible repeat (first | refine blk_drewN ?_ _ | refine blk_drew ?_ | refine blk_alloc ?_ _)); exact BK293.out)) : gb294 ≠ gb293)); clear BK293; clear HB; have BK293 := n0_; have HB := n1_; have BK294 := n2_; have GW294 := n3_; have GE294 := n4_; have NB293_294 := n5_; have NB294_293 := n6_; clear n0_ n1_ n2_ n3_ n4_ n5_ n6_; clear hb hbox hg; have hnb13 := NB293_294.out; have hnc13 := NB294_293.out; have hcz14_0 : w12.cell? ⟨gb293, 0, none⟩ = some (.int .i64 a0_0) := (blk_cell BK293.out 0).trans rfl; have hcz14_1 : w12.cell? ⟨gb293, 1, none⟩ = some (.int .i64 a0_1) := (blk_cell BK293.out 1).trans rfl; have hcz14_2 : w12.cell? ⟨gb293, 2, none⟩ = some (.int .i64 a0_2) := (blk_cell BK293.out 2).trans rfl; have hfz14_0 := blk_frozen BK293.out 0; have hfz14_1 := blk_frozen BK293.out 1; have hfz14_2 := blk_frozen BK293.out 2; have hcz15_0 : w12.cell? ⟨gb294, 0, none⟩ = some (.int .i64 a1_0) := (blk_cell BK294.out 0).trans rfl; have hcz15_1 : w12.cell? ⟨gb294, 1, none⟩ = some (.int .i64 a1_1) := (blk_cell BK294.out 1).trans rfl; have hcz15_2 : w12.cell? ⟨gb294, 2, none⟩ = some (.int .i64 a1_2) := (blk_cell BK294.out 2).trans rfl; have hfz15_0 := blk_frozen BK294.out 0; have hfz15_1 := blk_frozen BK294.out 1; have hfz15_2 := blk_frozen BK294.out 2))
        go_ret
        exact ⟨by first | rfl | (simp [errW_none, errW_some] <;> rfl) | (simp [*, errW_none, errW_some] <;> rfl), by repeat (first | (with_reducible first | exact HB.out | apply below_alloc | apply pw_below_drewN | apply below_drew1 | refine below_set ?_ GE293.out | refine below_set ?_ GE294.out) | exact HB.out)⟩
    · rw [if_neg c4] at H
      have c4b0 : (a0_1 == a1_1) = false := beq_eq_false_iff_ne.mpr c4
      have c4b1 : (a0_1 != a1_1) = true := bne_iff_ne.mpr c4
      obtain rfl := Option.some.inj H
      go_enter Try.func73, Try.ntmps73
      go_wp2_with (first | ((with_reducible refine gate_dst (N := 2) rfl ?_); refine box_event ?hg (N := 2) ?hd (cs := #[.int .i64 a0_0, .int .i64 a0_1, .int .i64 a0_2]) (t := 69) ?hr ?_; (case hd => rfl); (case hg => rfl); (case hr => first | (go_simp; done) | (go_simp; rfl)); intro gb293 hg w16 hbox hb; have n0_ := Aside0.mk (below_step (by repeat (first | (with_reducible first | exact HB.out | apply below_alloc | apply pw_below_drewN | apply below_drew1) | exact HB.out)) hb); have n1_ := Aside0.mk (hbox); have n2_ := Aside0.mk ((by rw [hg]; exact (below_size (by repeat (first | (with_reducible first | exact HB.out | apply below_alloc | apply pw_below_drewN | apply below_drew1) | exact HB.out))) : w.heap.size ≤ gb293)); have n3_ := Aside0.mk ((by rw [hg]; exact (below_size (by repeat (first | (with_reducible first | exact HB.out | apply below_alloc | apply pw_below_drewN | apply below_drew1) | exact HB.out))) : w.heap.size ≤ gb293)); clear HB; have HB := n0_; have BK293 := n1_; have GW293 := n2_; have GE293 := n3_; clear n0_ n1_ n2_ n3_; clear hb hbox hg) | ((with_reducible refine gate_dst (N := 3) rfl ?_); refine box_event ?hg (N := 3) ?hd (cs := #[.int .i64 a1_0, .int .i64 a1_1, .int .i64 a1_2]) (t := 69) ?hr ?_; (case hd => rfl); (case hg => rfl); (case hr => first | (go_simp; done) | (go_simp; rfl)); intro gb294 hg w17 hbox hb; have n0_ := Aside0.mk (blk_below (g := gb293) (o := .cells #[.int .i64 a0_0, .int .i64 a0_1, .int .i64 a0_2] 69 (0, 0)) (by (with_reducible repeat (first | refine blk_drewN ?_ _ | refine blk_drew ?_ | refine blk_alloc ?_ _)); exact BK293.out) hb); have n1_ := Aside0.mk (below_step (by repeat (first | (with_reducible first | exact HB.out | apply below_alloc | apply pw_below_drewN | apply below_drew1 | refine below_set ?_ GE293.out) | exact HB.out)) hb); have n2_ := Aside0.mk (hbox); have n3_ := Aside0.mk ((by rw [hg]; exact (below_size (by repeat (first | (with_reducible first | exact HB.out | apply below_alloc | apply pw_below_drewN | apply below_drew1 | refine below_set ?_ GE293.out) | exact HB.out))) : w.heap.size ≤ gb294)); have n4_ := Aside0.mk ((by rw [hg]; exact (below_size (by repeat (first | (with_reducible first | exact HB.out | apply below_alloc | apply pw_below_drewN | apply below_drew1 | refine below_set ?_ GE293.out) | exact HB.out))) : w.heap.size ≤ gb294)); have n5_ := Aside0.mk ((by rw [hg]; exact Nat.ne_of_lt (blk_lt (g := gb293) (o := .cells #[.int .i64 a0_0, .int .i64 a0_1, .int .i64 a0_2] 69 (0, 0)) (by (with_reducible repeat (first | refine blk_drewN ?_ _ | refine blk_drew ?_ | refine blk_alloc ?_ _)); exact BK293.out)) : gb293 ≠ gb294)); have n6_ := Aside0.mk ((by rw [hg]; exact Nat.ne_of_gt (blk_lt (g := gb293) (o := .cells #[.int .i64 a0_0, .int .i64 a0_1, .int .i64 a0_2] 69 (0, 0)) (by (with_reducible repeat (first | refine blk_drewN ?_ _ | refine blk_drew ?_ | refine blk_alloc ?_ _)); exact BK293.out)) : gb294 ≠ gb293)); clear BK293; clear HB; have BK293 := n0_; have HB := n1_; have BK294 := n2_; have GW294 := n3_; have GE294 := n4_; have NB293_294 := n5_; have NB294_293 := n6_; clear n0_ n1_ n2_ n3_ n4_ n5_ n6_; clear hb hbox hg; have hnb18 := NB293_294.out; have hnc18 := NB294_293.out; have hcz19_0 : w17.cell? ⟨gb293, 0, none⟩ = some (.int .i64 a0_0) := (blk_cell BK293.out 0).trans rfl; have hcz19_1 : w17.cell? ⟨gb293, 1, none⟩ = some (.int .i64 a0_1) := (blk_cell BK293.out 1).trans rfl; have hcz19_2 : w17.cell? ⟨gb293, 2, none⟩ = some (.int .i64 a0_2) := (blk_cell BK293.out 2).trans rfl; have hfz19_0 := blk_frozen BK293.out 0; have hfz19_1 := blk_frozen BK293.out 1; have hfz19_2 := blk_frozen BK293.out 2; have hcz20_0 : w17.cell? ⟨gb294, 0, none⟩ = some (.int .i64 a1_0) := (blk_cell BK294.out 0).trans rfl; have hcz20_1 : w17.cell? ⟨gb294, 1, none⟩ = some (.int .i64 a1_1) := (blk_cell BK294.out 1).trans rfl; have hcz20_2 : w17.cell? ⟨gb294, 2, none⟩ = some (.int .i64 a1_2) := (blk_cell BK294.out 2).trans rfl; have hfz20_0 := blk_frozen BK294.out 0; have hfz20_1 := blk_frozen BK294.out 1; have hfz20_2 := blk_frozen BK294.out 2))
      go_ret
      exact ⟨by first | rfl | (simp [errW_none, errW_some] <;> rfl) | (simp [*, errW_none, errW_some] <;> rfl), by repeat (first | (with_reducible first | exact HB.out | apply below_alloc | apply pw_below_drewN | apply below_drew1 | refine below_set ?_ GE293.out | refine below_set ?_ GE294.out) | exact HB.out)⟩
  · rw [if_neg c3] at H
    have c3b0 : (a0_0 == a1_0) = false := beq_eq_false_iff_ne.mpr c3
    have c3b1 : (a0_0 != a1_0) = true := bne_iff_ne.mpr c3
    obtain rfl := Option.some.inj H
    go_enter Try.func73, Try.ntmps73
    go_wp2_with (first | ((with_reducible refine gate_dst (N := 2) rfl ?_); refine box_event ?hg (N := 2) ?hd (cs := #[.int .i64 a0_0, .int .i64 a0_1, .int .i64 a0_2]) (t := 69) ?hr ?_; (case hd => rfl); (case hg => rfl); (case hr => first | (go_simp; done) | (go_simp; rfl)); intro gb293 hg w21 hbox hb; have n0_ := Aside0.mk (below_step (by repeat (first | (with_reducible first | exact HB.out | apply below_alloc | apply pw_below_drewN | apply below_drew1) | exact HB.out)) hb); have n1_ := Aside0.mk (hbox); have n2_ := Aside0.mk ((by rw [hg]; exact (below_size (by repeat (first | (with_reducible first | exact HB.out | apply below_alloc | apply pw_below_drewN | apply below_drew1) | exact HB.out))) : w.heap.size ≤ gb293)); have n3_ := Aside0.mk ((by rw [hg]; exact (below_size (by repeat (first | (with_reducible first | exact HB.out | apply below_alloc | apply pw_below_drewN | apply below_drew1) | exact HB.out))) : w.heap.size ≤ gb293)); clear HB; have HB := n0_; have BK293 := n1_; have GW293 := n2_; have GE293 := n3_; clear n0_ n1_ n2_ n3_; clear hb hbox hg) | ((with_reducible refine gate_dst (N := 3) rfl ?_); refine box_event ?hg (N := 3) ?hd (cs := #[.int .i64 a1_0, .int .i64 a1_1, .int .i64 a1_2]) (t := 69) ?hr ?_; (case hd => rfl); (case hg => rfl); (case hr => first | (go_simp; done) | (go_simp; rfl)); intro gb294 hg w22 hbox hb; have n0_ := Aside0.mk (blk_below (g := gb293) (o := .cells #[.int .i64 a0_0, .int .i64 a0_1, .int .i64 a0_2] 69 (0, 0)) (by (with_reducible repeat (first | refine blk_drewN ?_ _ | refine blk_drew ?_ | refine blk_alloc ?_ _)); exact BK293.out) hb); have n1_ := Aside0.mk (below_step (by repeat (first | (with_reducible first | exact HB.out | apply below_alloc | apply pw_below_drewN | apply below_drew1 | refine below_set ?_ GE293.out) | exact HB.out)) hb); have n2_ := Aside0.mk (hbox); have n3_ := Aside0.mk ((by rw [hg]; exact (below_size (by repeat (first | (with_reducible first | exact HB.out | apply below_alloc | apply pw_below_drewN | apply below_drew1 | refine below_set ?_ GE293.out) | exact HB.out))) : w.heap.size ≤ gb294)); have n4_ := Aside0.mk ((by rw [hg]; exact (below_size (by repeat (first | (with_reducible first | exact HB.out | apply below_alloc | apply pw_below_drewN | apply below_drew1 | refine below_set ?_ GE293.out) | exact HB.out))) : w.heap.size ≤ gb294)); have n5_ := Aside0.mk ((by rw [hg]; exact Nat.ne_of_lt (blk_lt (g := gb293) (o := .cells #[.int .i64 a0_0, .int .i64 a0_1, .int .i64 a0_2] 69 (0, 0)) (by (with_reducible repeat (first | refine blk_drewN ?_ _ | refine blk_drew ?_ | refine blk_alloc ?_ _)); exact BK293.out)) : gb293 ≠ gb294)); have n6_ := Aside0.mk ((by rw [hg]; exact Nat.ne_of_gt (blk_lt (g := gb293) (o := .cells #[.int .i64 a0_0, .int .i64 a0_1, .int .i64 a0_2] 69 (0, 0)) (by (with_reducible repeat (first | refine blk_drewN ?_ _ | refine blk_drew ?_ | refine blk_alloc ?_ _)); exact BK293.out)) : gb294 ≠ gb293)); clear BK293; clear HB; have BK293 := n0_; have HB := n1_; have BK294 := n2_; have GW294 := n3_; have GE294 := n4_; have NB293_294 := n5_; have NB294_293 := n6_; clear n0_ n1_ n2_ n3_ n4_ n5_ n6_; clear hb hbox hg; have hnb23 := NB293_294.out; have hnc23 := NB294_293.out; have hcz24_0 : w22.cell? ⟨gb293, 0, none⟩ = some (.int .i64 a0_0) := (blk_cell BK293.out 0).trans rfl; have hcz24_1 : w22.cell? ⟨gb293, 1, none⟩ = some (.int .i64 a0_1) := (blk_cell BK293.out 1).trans rfl; have hcz24_2 : w22.cell? ⟨gb293, 2, none⟩ = some (.int .i64 a0_2) := (blk_cell BK293.out 2).trans rfl; have hfz24_0 := blk_frozen BK293.out 0; have hfz24_1 := blk_frozen BK293.out 1; have hfz24_2 := blk_frozen BK293.out 2; have hcz25_0 : w22.cell? ⟨gb294, 0, none⟩ = some (.int .i64 a1_0) := (blk_cell BK294.out 0).trans rfl; have hcz25_1 : w22.cell? ⟨gb294, 1, none⟩ = some (.int .i64 a1_1) := (blk_cell BK294.out 1).trans rfl; have hcz25_2 : w22.cell? ⟨gb294, 2, none⟩ = some (.int .i64 a1_2) := (blk_cell BK294.out 2).trans rfl; have hfz25_0 := blk_frozen BK294.out 0; have hfz25_1 := blk_frozen BK294.out 1; have hfz25_2 := blk_frozen BK294.out 2))
    go_ret
    exact ⟨by first | rfl | (simp [errW_none, errW_some] <;> rfl) | (simp [*, errW_none, errW_some] <;> rfl), by repeat (first | (with_reducible first | exact HB.out | apply below_alloc | apply pw_below_drewN | apply below_drew1 | refine below_set ?_ GE293.out | refine below_set ?_ GE294.out) | exact HB.out)⟩
def laws_eqCellS.f (k : Nat) (l0 : List S69) (l1 : List S69) : Option Bool := if l0 = l1 then some true else none
set_option maxHeartbeats 4000000 in
set_option maxRecDepth 100000 in
theorem laws_eqCellS.calls (k : Nat) (A0 : Option Addr) (c0 : Nat) (l0 : List S69) (A1 : Option Addr) (c1 : Nat) (l1 : List S69) (r : Bool) (w : World) (hr0 : Kd.C k69 w A0 l0.length l0) (hc0 : l0.length ≤ c0) (hr1 : Kd.C k69 w A1 l1.length l1) (hc1 : l1.length ≤ c1) (h : laws_eqCellS.f k l0 l1 = some r) :
    Calls Try.prog 39 #[.slice A0 l0.length c0, .slice A1 l1.length c1] w fun e w' => e = .returned (.bool r) ∧ Below w.heap.size w w' := by
  unfold laws_eqCellS.f at h
  by_cases c : l0 = l1
  case neg => rw [if_neg c] at h; cases h
  rw [if_pos c] at h
  obtain rfl := Option.some.inj h
  subst c
  clear h
  have HM := Aside0.mk (show l0.length ≤ 9223372036854775807 from hr0.2.1)
  have HR0 := Aside0.mk hr0
  have HC0 := Aside0.mk hc0
  have HR1 := Aside0.mk hr1
  have HC1 := Aside0.mk hc1
  clear hr0 hc0 hr1 hc1
  have HB := Aside0.mk (Below.refl w.heap.size w)
  have d0 : ((l0.length : Int) != (l0.length : Int)) = false := by simp
  have d1 : (l0.length != l0.length) = false := by simp
  have hu3 := Try.underlying3
  have hu69 := Try.underlying69
  go_enter Try.func39, Try.ntmps39
  go_wp2
  go_loopw [5] (fun v5 wr => ∃ x : Int, v5 = .int .i64 x ∧ Aside0 (0 ≤ x ∧ x ≤ (l0.length : Nat)) ∧ Aside0 (Below w.heap.size w wr)) (fun v5 _ => l0.length - (intOf v5).toNat)
  case atStart => exact ⟨0, rfl, ⟨by omega, by omega⟩, HB⟩
  case round =>
    clear HB
    obtain ⟨x, rfl, HX, HB⟩ := hrel
    by_cases c0 : x < ((l0.length : Nat) : Int)
    · have c0b : decide (x < ((l0.length : Nat) : Int)) = true := decide_eq_true c0
      have hx0 := HX.out.1
      obtain ⟨ad0, e0, y0_0, y0_1, y0_2⟩ := at_T69 (Kd.C_below HR0.out HB.out) x hx0 c0
      obtain ⟨ad1, e1, y1_0, y1_1, y1_2⟩ := at_T69 (Kd.C_below HR1.out HB.out) x hx0 c0
      cases e0
      cases e1
      obtain ⟨p, hp⟩ : ∃ p, p = rd_T69 l0 x := ⟨_, rfl⟩
      rw [← hp] at y0_0 y0_1 y0_2 y1_0 y1_1 y1_2
      clear hp
      have HS := Aside0.mk (show ∀ w', Below wr.heap.size wr w' → (Below wr.heap.size wr w' ∧ w'.cell? (ad0.add (x.toNat * 3)) = some (.int .i64 p.f0) ∧ w'.cell? ⟨(ad0.add (x.toNat * 3)).block, (ad0.add (x.toNat * 3)).off + 1, none⟩ = some (.int .i64 p.f1) ∧ w'.cell? ⟨(ad0.add (x.toNat * 3)).block, (ad0.add (x.toNat * 3)).off + 2, none⟩ = some (.int .i64 p.f2) ∧ w'.cell? (ad1.add (x.toNat * 3)) = some (.int .i64 p.f0) ∧ w'.cell? ⟨(ad1.add (x.toNat * 3)).block, (ad1.add (x.toNat * 3)).off + 1, none⟩ = some (.int .i64 p.f1) ∧ w'.cell? ⟨(ad1.add (x.toNat * 3)).block, (ad1.add (x.toNat * 3)).off + 2, none⟩ = some (.int .i64 p.f2)) from fun w' hb => ⟨hb, pw_cell_below hb y0_0, pw_cell_below hb y0_1, pw_cell_below hb y0_2, pw_cell_below hb y1_0, pw_cell_below hb y1_1, pw_cell_below hb y1_2⟩)
      have HP := Aside0.mk c0
      have p0 := eq_true hx0
      have p1 := eq_true c0
      clear c0 hx0 y0_0 y0_1 y0_2 y1_0 y1_1 y1_2
      have HE := Aside0.mk (show laws_eqCell.f p.f0 p.f1 p.f2 p.f0 p.f1 p.f2 = some true by simp [laws_eqCell.f])
      obtain ⟨sb, s0_0, s0_1, s0_2, s1_0, s1_1, s1_2⟩ := HS.out wr (Below.refl _ _)
      go_wp2_with fail
      go_region_held3 (fun w' => Below wr.heap.size wr w' ∧ w'.cell? (ad0.add (x.toNat * 3)) = some (.int .i64 p.f0) ∧ w'.cell? ⟨(ad0.add (x.toNat * 3)).block, (ad0.add (x.toNat * 3)).off + 1, none⟩ = some (.int .i64 p.f1) ∧ w'.cell? ⟨(ad0.add (x.toNat * 3)).block, (ad0.add (x.toNat * 3)).off + 2, none⟩ = some (.int .i64 p.f2) ∧ w'.cell? (ad1.add (x.toNat * 3)) = some (.int .i64 p.f0) ∧ w'.cell? ⟨(ad1.add (x.toNat * 3)).block, (ad1.add (x.toNat * 3)).off + 1, none⟩ = some (.int .i64 p.f1) ∧ w'.cell? ⟨(ad1.add (x.toNat * 3)).block, (ad1.add (x.toNat * 3)).off + 2, none⟩ = some (.int .i64 p.f2)) (first | exact HS.out _ (below_drew (Below.refl _ _)) | exact HS.out _ (Below.refl _ _) | (refine HS.out _ ?_; first | exact below_step (And.left (by assumption)) (by assumption) | exact And.left (by assumption)) | go_keep) (first | (go_at_call 73; refine (laws_eqCell.calls p.f0 p.f1 p.f2 p.f0 p.f1 p.f2 true _  HE.out).mono ?_; rintro e wz ⟨rfl, hz_⟩))
      go_wp2
      go_roundw
      case rel =>
        have e1 : (wrap64 (x + 1)) = x + 1 := by have h1 := HX.out.1; have h2 := HP.out; have h3 := HM.out; unfold wrap64; omega
        refine ⟨_, rfl, ⟨?_⟩, ⟨?_⟩⟩
        · rw [e1]; exact ⟨by have := HX.out.1; omega, by have := HP.out; omega⟩
        · exact below_step HB.out (And.left (by assumption))
      case measure =>
        have h1 := HX.out.1
        have h2 := HP.out
        have h3 := HM.out
        have e1 : (wrap64 (x + 1)) = x + 1 := by unfold wrap64; omega
        rw [e1]
        simp [intOf]
        omega
    · have c0b : decide (x < ((l0.length : Nat) : Int)) = false := decide_eq_false c0
      clear c0
      go_wp2
      go_ret
      exact ⟨rfl, HB.out⟩
def laws_eqIntS.f (k : Nat) (l0 : List Int) (l1 : List Int) : Option Bool := if l0 = l1 then some true else none
set_option maxHeartbeats 4000000 in
set_option maxRecDepth 100000 in
theorem laws_eqIntS.calls (k : Nat) (A0 : Option Addr) (c0 : Nat) (l0 : List Int) (A1 : Option Addr) (c1 : Nat) (l1 : List Int) (r : Bool) (w : World) (hr0 : Kd.C (Kd.int .i64) w A0 l0.length l0) (hc0 : l0.length ≤ c0) (hr1 : Kd.C (Kd.int .i64) w A1 l1.length l1) (hc1 : l1.length ≤ c1) (h : laws_eqIntS.f k l0 l1 = some r) :
    Calls Try.prog 41 #[.slice A0 l0.length c0, .slice A1 l1.length c1] w fun e w' => e = .returned (.bool r) ∧ Below w.heap.size w w' := by
  unfold laws_eqIntS.f at h
  by_cases c : l0 = l1
  case neg => rw [if_neg c] at h; cases h
  rw [if_pos c] at h
  obtain rfl := Option.some.inj h
  subst c
  clear h
  have HM := Aside0.mk (show l0.length ≤ 9223372036854775807 from hr0.2.1)
  have HR0 := Aside0.mk hr0
  have HC0 := Aside0.mk hc0
  have HR1 := Aside0.mk hr1
  have HC1 := Aside0.mk hc1
  clear hr0 hc0 hr1 hc1
  have HB := Aside0.mk (Below.refl w.heap.size w)
  have d0 : ((l0.length : Int) != (l0.length : Int)) = false := by simp
  have d1 : (l0.length != l0.length) = false := by simp
  have hu3 := Try.underlying3
  go_enter Try.func41, Try.ntmps41
  go_wp2
  go_loopw [5] (fun v5 wr => ∃ x : Int, v5 = .int .i64 x ∧ Aside0 (0 ≤ x ∧ x ≤ (l0.length : Nat)) ∧ Aside0 (Below w.heap.size w wr)) (fun v5 _ => l0.length - (intOf v5).toNat)
  case atStart => exact ⟨0, rfl, ⟨by omega, by omega⟩, HB⟩
  case round =>
    clear HB
    obtain ⟨x, rfl, HX, HB⟩ := hrel
    by_cases c0 : x < ((l0.length : Nat) : Int)
    · have c0b : decide (x < ((l0.length : Nat) : Int)) = true := decide_eq_true c0
      have hx0 := HX.out.1
      obtain ⟨ad0, e0, y0_0⟩ := Kd.at_int (Kd.C_below HR0.out HB.out) x hx0 c0
      obtain ⟨ad1, e1, y1_0⟩ := Kd.at_int (Kd.C_below HR1.out HB.out) x hx0 c0
      cases e0
      cases e1
      have HS := Aside0.mk (show ∀ w', Below wr.heap.size wr w' → (Below wr.heap.size wr w' ∧ w'.cell? (ad0.add x.toNat) = some (.int .i64 (rd l0 x)) ∧ w'.cell? (ad1.add x.toNat) = some (.int .i64 (rd l0 x))) from fun w' hb => ⟨hb, pw_cell_below hb y0_0, pw_cell_below hb y1_0⟩)
      have HP := Aside0.mk c0
      have p0 := eq_true hx0
      have p1 := eq_true c0
      clear c0 hx0 y0_0 y1_0
      obtain ⟨sb, s0_0, s1_0⟩ := HS.out wr (Below.refl _ _)
      go_wp2_with fail
      go_region_held3 (fun w' => Below wr.heap.size wr w' ∧ w'.cell? (ad0.add x.toNat) = some (.int .i64 (rd l0 x)) ∧ w'.cell? (ad1.add x.toNat) = some (.int .i64 (rd l0 x))) (first | exact HS.out _ (below_drew (Below.refl _ _)) | exact HS.out _ (Below.refl _ _) | (refine HS.out _ ?_; first | exact below_step (And.left (by assumption)) (by assumption) | exact And.left (by assumption)) | go_keep) (fail)
      go_wp2
      go_roundw
      case rel =>
        have e1 : (wrap64 (x + 1)) = x + 1 := by have h1 := HX.out.1; have h2 := HP.out; have h3 := HM.out; unfold wrap64; omega
        refine ⟨_, rfl, ⟨?_⟩, ⟨?_⟩⟩
        · rw [e1]; exact ⟨by have := HX.out.1; omega, by have := HP.out; omega⟩
        · exact below_step HB.out (And.left (by assumption))
      case measure =>
        have h1 := HX.out.1
        have h2 := HP.out
        have h3 := HM.out
        have e1 : (wrap64 (x + 1)) = x + 1 := by unfold wrap64; omega
        rw [e1]
        simp [intOf]
        omega
    · have c0b : decide (x < ((l0.length : Nat) : Int)) = false := decide_eq_false c0
      clear c0
      go_wp2
      go_ret
      exact ⟨rfl, HB.out⟩
end Go.Proofs.Ytoeepmcaabmjkaa.QSN
