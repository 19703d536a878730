/-
  No cell of these rows narrows 'for every input' (looked for: loops, veiled, ifaces, maps, wideKeys, modest, calm, conditions, laid).
  DERIVED. THE GIVEN ROWS OF THIS SEAT. 6 by the template 'for every input the law returns true; each argument reads behind the call as it read before'; 0 by the template 'total and deterministic' (their statements: YtoeepmcaabmjkaaTotals.lean).
  GIVEN WITH THE SEED: the statements are not yours to turn. If you find one false, say at which input.
  Laid BY PROGRAM, IN A SANDBOX (cutbox-rows.mjs): the forced cells as the released guide's own fill.sh prints them over the translation 2442e831c54c124a… (all of the seat's roots in one cut). By AI agents, Wed Nov 11 2026. No macro, syntax, notation, axiom, sorry.
-/
import Derived.Test.YtoeepmcaabmjkaaChecked
import GoSem.Claim
import GoSem.ClaimJoined
import GoSem.ClaimMapViews
import Derived.JoinedTies
import Derived.KernelRfl
namespace Go.Proofs.Ytoeepmcaabmjkaa
/- THE CELL 'sum', in the pinned program and in every row, IS THE sha256 OF THE DUMP (.gsa) THAT YtoeepmcaabmjkaaProg.lean LOADS. Nothing in Lean hashes anything: it is a label: what it is worth is what the hold of that sum in a sandbox is worth. -/
noncomputable def Try.pinned : Pinned := { name := "ytoeepmcaabmjkaa", sum := "2442e831c54c124a0fe1481bfe141567f879354be0a692a2fddcf8d92b0a8546", checked := Try.checked }
namespace Rows
def none {H : Type} : Left H := { results := [], args := [] }

/-- 'laws.FnExactSysNew': WHATEVER THE INPUT: true; the input reads as it did. -/
def fnExactSysNewSpec : ChangeSpec := { name := "fnExactSysNew", fn := fun _ => fun
  | [d] => { results := [.lit (.bool true)], args := [d] }
  | _ => none }
def fnExactSysNewRow : OpenClaim := { program := "ytoeepmcaabmjkaa", sum := "2442e831c54c124a0fe1481bfe141567f879354be0a692a2fddcf8d92b0a8546", func := "loop.example/equerry/laws.FnExactSysNew", spec := "fnExactSysNew", recurses := true, apart := false }
def FnExactSysNewSaid : Prop := fnExactSysNewRow.holds Try.pinned (OpenSpec.ofChange fnExactSysNewSpec)

/-- ITS FALSE NEIGHBOUR: 'it returns false'. Refute it at one input. -/
def fnExactSysNewWrong : ChangeSpec := { name := "fnExactSysNew", fn := fun _ => fun
  | [d] => { results := [.lit (.bool false)], args := [d] }
  | _ => none }
def FnExactSysNewWrongFalsely : Prop := fnExactSysNewRow.holds Try.pinned (OpenSpec.ofChange fnExactSysNewWrong)

/-- 'laws.FnExactLogTask': WHATEVER THE INPUT: true; the input reads as it did. -/
def fnExactLogTaskSpec : ChangeSpec := { name := "fnExactLogTask", fn := fun _ => fun
  | [d1, d2] => { results := [.lit (.bool true)], args := [d1, d2] }
  | _ => none }
def fnExactLogTaskRow : OpenClaim := { program := "ytoeepmcaabmjkaa", sum := "2442e831c54c124a0fe1481bfe141567f879354be0a692a2fddcf8d92b0a8546", func := "loop.example/equerry/laws.FnExactLogTask", spec := "fnExactLogTask", apart := false }
def FnExactLogTaskSaid : Prop := fnExactLogTaskRow.holds Try.pinned (OpenSpec.ofChange fnExactLogTaskSpec)

/-- ITS FALSE NEIGHBOUR: 'it returns false'. Refute it at one input. -/
def fnExactLogTaskWrong : ChangeSpec := { name := "fnExactLogTask", fn := fun _ => fun
  | [d1, d2] => { results := [.lit (.bool false)], args := [d1, d2] }
  | _ => none }
def FnExactLogTaskWrongFalsely : Prop := fnExactLogTaskRow.holds Try.pinned (OpenSpec.ofChange fnExactLogTaskWrong)

/-- 'laws.FnProgMore': WHATEVER THE INPUT: true; the input reads as it did. -/
def fnProgMoreSpec : ChangeSpec := { name := "fnProgMore", fn := fun _ => fun
  | [d] => { results := [.lit (.bool true)], args := [d] }
  | _ => none }
def fnProgMoreRow : OpenClaim := { program := "ytoeepmcaabmjkaa", sum := "2442e831c54c124a0fe1481bfe141567f879354be0a692a2fddcf8d92b0a8546", func := "loop.example/equerry/laws.FnProgMore", spec := "fnProgMore", recurses := true, apart := false }
def FnProgMoreSaid : Prop := fnProgMoreRow.holds Try.pinned (OpenSpec.ofChange fnProgMoreSpec)

/-- ITS FALSE NEIGHBOUR: 'it returns false'. Refute it at one input. -/
def fnProgMoreWrong : ChangeSpec := { name := "fnProgMore", fn := fun _ => fun
  | [d] => { results := [.lit (.bool false)], args := [d] }
  | _ => none }
def FnProgMoreWrongFalsely : Prop := fnProgMoreRow.holds Try.pinned (OpenSpec.ofChange fnProgMoreWrong)

/-- 'laws.FnProgKids': WHATEVER THE INPUT: true; the input reads as it did. -/
def fnProgKidsSpec : ChangeSpec := { name := "fnProgKids", fn := fun _ => fun
  | [d] => { results := [.lit (.bool true)], args := [d] }
  | _ => none }
def fnProgKidsRow : OpenClaim := { program := "ytoeepmcaabmjkaa", sum := "2442e831c54c124a0fe1481bfe141567f879354be0a692a2fddcf8d92b0a8546", func := "loop.example/equerry/laws.FnProgKids", spec := "fnProgKids", recurses := true, apart := false }
def FnProgKidsSaid : Prop := fnProgKidsRow.holds Try.pinned (OpenSpec.ofChange fnProgKidsSpec)

/-- ITS FALSE NEIGHBOUR: 'it returns false'. Refute it at one input. -/
def fnProgKidsWrong : ChangeSpec := { name := "fnProgKids", fn := fun _ => fun
  | [d] => { results := [.lit (.bool false)], args := [d] }
  | _ => none }
def FnProgKidsWrongFalsely : Prop := fnProgKidsRow.holds Try.pinned (OpenSpec.ofChange fnProgKidsWrong)

/-- 'laws.FnProgTree': WHATEVER THE INPUT: true; the input reads as it did. -/
def fnProgTreeSpec : ChangeSpec := { name := "fnProgTree", fn := fun _ => fun
  | [d] => { results := [.lit (.bool true)], args := [d] }
  | _ => none }
def fnProgTreeRow : OpenClaim := { program := "ytoeepmcaabmjkaa", sum := "2442e831c54c124a0fe1481bfe141567f879354be0a692a2fddcf8d92b0a8546", func := "loop.example/equerry/laws.FnProgTree", spec := "fnProgTree", recurses := true, apart := false }
def FnProgTreeSaid : Prop := fnProgTreeRow.holds Try.pinned (OpenSpec.ofChange fnProgTreeSpec)

/-- ITS FALSE NEIGHBOUR: 'it returns false'. Refute it at one input. -/
def fnProgTreeWrong : ChangeSpec := { name := "fnProgTree", fn := fun _ => fun
  | [d] => { results := [.lit (.bool false)], args := [d] }
  | _ => none }
def FnProgTreeWrongFalsely : Prop := fnProgTreeRow.holds Try.pinned (OpenSpec.ofChange fnProgTreeWrong)

/-- 'laws.FnExactLogOrder': WHATEVER THE INPUT: true; the input reads as it did. -/
def fnExactLogOrderSpec : ChangeSpec := { name := "fnExactLogOrder", fn := fun _ => fun
  | [d] => { results := [.lit (.bool true)], args := [d] }
  | _ => none }
def fnExactLogOrderRow : OpenClaim := { program := "ytoeepmcaabmjkaa", sum := "2442e831c54c124a0fe1481bfe141567f879354be0a692a2fddcf8d92b0a8546", func := "loop.example/equerry/laws.FnExactLogOrder", spec := "fnExactLogOrder", unfollowed := true, recurses := true, apart := false }
def FnExactLogOrderSaid : Prop := fnExactLogOrderRow.holds Try.pinned (OpenSpec.ofChange fnExactLogOrderSpec)

/-- ITS FALSE NEIGHBOUR: 'it returns false'. Refute it at one input. -/
def fnExactLogOrderWrong : ChangeSpec := { name := "fnExactLogOrder", fn := fun _ => fun
  | [d] => { results := [.lit (.bool false)], args := [d] }
  | _ => none }
def FnExactLogOrderWrongFalsely : Prop := fnExactLogOrderRow.holds Try.pinned (OpenSpec.ofChange fnExactLogOrderWrong)

/- THE SECOND FORM. 'bulk': how many values and letters a reading holds, each counted each time it is reached (what is shared counts as often as it is met; a slice's spare places count too). A statement '..UptoSaid' is the law's where the arguments, and the package variables that the reading takes, are together of bulk at most 1048576: NARROWER than '..Said'. Prove '..Said' where nothing that the law and all that it calls make is longer than what came in: it says more and counts as full. Else prove '..UptoSaid'. A law counts once. -/
mutual
def uptoBulk {H : Type} : DataW H → Nat
  | .lit (.string bytes) => bytes.length + 1
  | .lit _ => 1
  | .nil => 1
  | .ptr d => uptoBulk d + 1
  | .slice elems spare => uptoBulkAll elems + uptoBulkAll spare + 1
  | .agg parts => uptoBulkAll parts + 1
  | .iface _ d => uptoBulk d + 1
  | .map entries => uptoBulkEntries entries + 1
  | .held _ => 1
def uptoBulkAll {H : Type} : List (DataW H) → Nat
  | [] => 0
  | d :: r => uptoBulk d + uptoBulkAll r
def uptoBulkEntries {H : Type} : List (Lit × DataW H) → Nat
  | [] => 0
  | x :: r => uptoBulkEntry x + uptoBulkEntries r
def uptoBulkEntry {H : Type} : Lit × DataW H → Nat
  | (.string bytes, d) => bytes.length + uptoBulk d + 1
  | (_, d) => uptoBulk d + 1
 end
def uptoSmall : (H : Type) → List (DataW H) → Bool := fun _ ds => decide (uptoBulkAll ds ≤ 1048576)
def OpenSpec.upto (s : _root_.Go.ChangeSpec) : _root_.Go.OpenSpec := { _root_.Go.OpenSpec.ofChange s with cond := some uptoSmall }

/-- 'laws.FnExactSysNew', WHERE WHAT IT READS IS OF BULK AT MOST 1048576: true; the input reads as it did. -/
def fnExactSysNewUptoRow : OpenClaim := { program := "ytoeepmcaabmjkaa", sum := "2442e831c54c124a0fe1481bfe141567f879354be0a692a2fddcf8d92b0a8546", func := "loop.example/equerry/laws.FnExactSysNew", spec := "fnExactSysNew", recurses := true, apart := false, narrowed := true }
def FnExactSysNewUptoSaid : Prop := fnExactSysNewUptoRow.holds Try.pinned (OpenSpec.upto fnExactSysNewSpec)

/-- 'laws.FnExactLogTask', WHERE WHAT IT READS IS OF BULK AT MOST 1048576: true; the input reads as it did. -/
def fnExactLogTaskUptoRow : OpenClaim := { program := "ytoeepmcaabmjkaa", sum := "2442e831c54c124a0fe1481bfe141567f879354be0a692a2fddcf8d92b0a8546", func := "loop.example/equerry/laws.FnExactLogTask", spec := "fnExactLogTask", apart := false, narrowed := true }
def FnExactLogTaskUptoSaid : Prop := fnExactLogTaskUptoRow.holds Try.pinned (OpenSpec.upto fnExactLogTaskSpec)

/-- 'laws.FnProgMore', WHERE WHAT IT READS IS OF BULK AT MOST 1048576: true; the input reads as it did. -/
def fnProgMoreUptoRow : OpenClaim := { program := "ytoeepmcaabmjkaa", sum := "2442e831c54c124a0fe1481bfe141567f879354be0a692a2fddcf8d92b0a8546", func := "loop.example/equerry/laws.FnProgMore", spec := "fnProgMore", recurses := true, apart := false, narrowed := true }
def FnProgMoreUptoSaid : Prop := fnProgMoreUptoRow.holds Try.pinned (OpenSpec.upto fnProgMoreSpec)

/-- 'laws.FnProgKids', WHERE WHAT IT READS IS OF BULK AT MOST 1048576: true; the input reads as it did. -/
def fnProgKidsUptoRow : OpenClaim := { program := "ytoeepmcaabmjkaa", sum := "2442e831c54c124a0fe1481bfe141567f879354be0a692a2fddcf8d92b0a8546", func := "loop.example/equerry/laws.FnProgKids", spec := "fnProgKids", recurses := true, apart := false, narrowed := true }
def FnProgKidsUptoSaid : Prop := fnProgKidsUptoRow.holds Try.pinned (OpenSpec.upto fnProgKidsSpec)

/-- 'laws.FnProgTree', WHERE WHAT IT READS IS OF BULK AT MOST 1048576: true; the input reads as it did. -/
def fnProgTreeUptoRow : OpenClaim := { program := "ytoeepmcaabmjkaa", sum := "2442e831c54c124a0fe1481bfe141567f879354be0a692a2fddcf8d92b0a8546", func := "loop.example/equerry/laws.FnProgTree", spec := "fnProgTree", recurses := true, apart := false, narrowed := true }
def FnProgTreeUptoSaid : Prop := fnProgTreeUptoRow.holds Try.pinned (OpenSpec.upto fnProgTreeSpec)

/-- 'laws.FnExactLogOrder', WHERE WHAT IT READS IS OF BULK AT MOST 1048576: true; the input reads as it did. -/
def fnExactLogOrderUptoRow : OpenClaim := { program := "ytoeepmcaabmjkaa", sum := "2442e831c54c124a0fe1481bfe141567f879354be0a692a2fddcf8d92b0a8546", func := "loop.example/equerry/laws.FnExactLogOrder", spec := "fnExactLogOrder", unfollowed := true, recurses := true, apart := false, narrowed := true }
def FnExactLogOrderUptoSaid : Prop := fnExactLogOrderUptoRow.holds Try.pinned (OpenSpec.upto fnExactLogOrderSpec)

end Rows
end Go.Proofs.Ytoeepmcaabmjkaa
