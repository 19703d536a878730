/-
  No cell of these rows narrows 'for every input' (looked for: loops, veiled, ifaces, maps, wideKeys, modest, calm, conditions, laid).
  DERIVED. THE GIVEN ROWS OF THIS SEAT. 7 by the template 'for every input the law returns true; each argument reads behind the call as it read before'; 0 by the template 'total and deterministic' (their statements: YtpodhdpkdhcnoaaTotals.lean).
  GIVEN WITH THE SEED: the statements are not yours to turn. If you find one false, say at which input.
  Laid BY PROGRAM, IN A SANDBOX (cutbox-rows.mjs): the forced cells as the released guide's own fill.sh prints them over the translation 53bfc781596d93d3… (all of the seat's roots in one cut). By AI agents, Wed Nov 11 2026. No macro, syntax, notation, axiom, sorry.
-/
import Derived.Test.YtpodhdpkdhcnoaaChecked
import GoSem.Claim
import GoSem.ClaimJoined
import GoSem.ClaimMapViews
import Derived.JoinedTies
import Derived.KernelRfl
namespace Go.Proofs.Ytpodhdpkdhcnoaa
/- THE CELL 'sum', in the pinned program and in every row, IS THE sha256 OF THE DUMP (.gsa) THAT YtpodhdpkdhcnoaaProg.lean LOADS. Nothing in Lean hashes anything: it is a label: what it is worth is what the hold of that sum in a sandbox is worth. -/
noncomputable def Try.pinned : Pinned := { name := "ytpodhdpkdhcnoaa", sum := "53bfc781596d93d36de63448b00f164d9e54be0284fff866d93a746da6f562c9", checked := Try.checked }
namespace Rows
def none {H : Type} : Left H := { results := [], args := [] }

/-- 'laws.FnExactSysNums': WHATEVER THE INPUT: true; the input reads as it did. -/
def fnExactSysNumsSpec : ChangeSpec := { name := "fnExactSysNums", fn := fun _ => fun
  | [d] => { results := [.lit (.bool true)], args := [d] }
  | _ => none }
def fnExactSysNumsRow : OpenClaim := { program := "ytpodhdpkdhcnoaa", sum := "53bfc781596d93d36de63448b00f164d9e54be0284fff866d93a746da6f562c9", func := "loop.example/equerry/laws.FnExactSysNums", spec := "fnExactSysNums", apart := false }
def FnExactSysNumsSaid : Prop := fnExactSysNumsRow.holds Try.pinned (OpenSpec.ofChange fnExactSysNumsSpec)

/-- ITS FALSE NEIGHBOUR: 'it returns false'. Refute it at one input. -/
def fnExactSysNumsWrong : ChangeSpec := { name := "fnExactSysNums", fn := fun _ => fun
  | [d] => { results := [.lit (.bool false)], args := [d] }
  | _ => none }
def FnExactSysNumsWrongFalsely : Prop := fnExactSysNumsRow.holds Try.pinned (OpenSpec.ofChange fnExactSysNumsWrong)

/-- 'laws.FnExactSysWays': WHATEVER THE INPUT: true; the input reads as it did. -/
def fnExactSysWaysSpec : ChangeSpec := { name := "fnExactSysWays", fn := fun _ => fun
  | [d] => { results := [.lit (.bool true)], args := [d] }
  | _ => none }
def fnExactSysWaysRow : OpenClaim := { program := "ytpodhdpkdhcnoaa", sum := "53bfc781596d93d36de63448b00f164d9e54be0284fff866d93a746da6f562c9", func := "loop.example/equerry/laws.FnExactSysWays", spec := "fnExactSysWays", apart := false }
def FnExactSysWaysSaid : Prop := fnExactSysWaysRow.holds Try.pinned (OpenSpec.ofChange fnExactSysWaysSpec)

/-- ITS FALSE NEIGHBOUR: 'it returns false'. Refute it at one input. -/
def fnExactSysWaysWrong : ChangeSpec := { name := "fnExactSysWays", fn := fun _ => fun
  | [d] => { results := [.lit (.bool false)], args := [d] }
  | _ => none }
def FnExactSysWaysWrongFalsely : Prop := fnExactSysWaysRow.holds Try.pinned (OpenSpec.ofChange fnExactSysWaysWrong)

/-- 'laws.FnExactSysHeld': WHATEVER THE INPUT: true; the input reads as it did. -/
def fnExactSysHeldSpec : ChangeSpec := { name := "fnExactSysHeld", fn := fun _ => fun
  | [d] => { results := [.lit (.bool true)], args := [d] }
  | _ => none }
def fnExactSysHeldRow : OpenClaim := { program := "ytpodhdpkdhcnoaa", sum := "53bfc781596d93d36de63448b00f164d9e54be0284fff866d93a746da6f562c9", func := "loop.example/equerry/laws.FnExactSysHeld", spec := "fnExactSysHeld", apart := false }
def FnExactSysHeldSaid : Prop := fnExactSysHeldRow.holds Try.pinned (OpenSpec.ofChange fnExactSysHeldSpec)

/-- ITS FALSE NEIGHBOUR: 'it returns false'. Refute it at one input. -/
def fnExactSysHeldWrong : ChangeSpec := { name := "fnExactSysHeld", fn := fun _ => fun
  | [d] => { results := [.lit (.bool false)], args := [d] }
  | _ => none }
def FnExactSysHeldWrongFalsely : Prop := fnExactSysHeldRow.holds Try.pinned (OpenSpec.ofChange fnExactSysHeldWrong)

/-- 'laws.FnExactSysAwait': WHATEVER THE INPUT: true; the input reads as it did. -/
def fnExactSysAwaitSpec : ChangeSpec := { name := "fnExactSysAwait", fn := fun _ => fun
  | [d] => { results := [.lit (.bool true)], args := [d] }
  | _ => none }
def fnExactSysAwaitRow : OpenClaim := { program := "ytpodhdpkdhcnoaa", sum := "53bfc781596d93d36de63448b00f164d9e54be0284fff866d93a746da6f562c9", func := "loop.example/equerry/laws.FnExactSysAwait", spec := "fnExactSysAwait", apart := false }
def FnExactSysAwaitSaid : Prop := fnExactSysAwaitRow.holds Try.pinned (OpenSpec.ofChange fnExactSysAwaitSpec)

/-- ITS FALSE NEIGHBOUR: 'it returns false'. Refute it at one input. -/
def fnExactSysAwaitWrong : ChangeSpec := { name := "fnExactSysAwait", fn := fun _ => fun
  | [d] => { results := [.lit (.bool false)], args := [d] }
  | _ => none }
def FnExactSysAwaitWrongFalsely : Prop := fnExactSysAwaitRow.holds Try.pinned (OpenSpec.ofChange fnExactSysAwaitWrong)

/-- 'laws.FnExactLogTask': WHATEVER THE INPUT: true; the input reads as it did. -/
def fnExactLogTaskSpec : ChangeSpec := { name := "fnExactLogTask", fn := fun _ => fun
  | [d1, d2] => { results := [.lit (.bool true)], args := [d1, d2] }
  | _ => none }
def fnExactLogTaskRow : OpenClaim := { program := "ytpodhdpkdhcnoaa", sum := "53bfc781596d93d36de63448b00f164d9e54be0284fff866d93a746da6f562c9", func := "loop.example/equerry/laws.FnExactLogTask", spec := "fnExactLogTask", apart := false }
def FnExactLogTaskSaid : Prop := fnExactLogTaskRow.holds Try.pinned (OpenSpec.ofChange fnExactLogTaskSpec)

/-- ITS FALSE NEIGHBOUR: 'it returns false'. Refute it at one input. -/
def fnExactLogTaskWrong : ChangeSpec := { name := "fnExactLogTask", fn := fun _ => fun
  | [d1, d2] => { results := [.lit (.bool false)], args := [d1, d2] }
  | _ => none }
def FnExactLogTaskWrongFalsely : Prop := fnExactLogTaskRow.holds Try.pinned (OpenSpec.ofChange fnExactLogTaskWrong)

/-- 'laws.FnExactProgOk': WHATEVER THE INPUT: true; the input reads as it did. -/
def fnExactProgOkSpec : ChangeSpec := { name := "fnExactProgOk", fn := fun _ => fun
  | [d] => { results := [.lit (.bool true)], args := [d] }
  | _ => none }
def fnExactProgOkRow : OpenClaim := { program := "ytpodhdpkdhcnoaa", sum := "53bfc781596d93d36de63448b00f164d9e54be0284fff866d93a746da6f562c9", func := "loop.example/equerry/laws.FnExactProgOk", spec := "fnExactProgOk", recurses := true, apart := false }
def FnExactProgOkSaid : Prop := fnExactProgOkRow.holds Try.pinned (OpenSpec.ofChange fnExactProgOkSpec)

/-- ITS FALSE NEIGHBOUR: 'it returns false'. Refute it at one input. -/
def fnExactProgOkWrong : ChangeSpec := { name := "fnExactProgOk", fn := fun _ => fun
  | [d] => { results := [.lit (.bool false)], args := [d] }
  | _ => none }
def FnExactProgOkWrongFalsely : Prop := fnExactProgOkRow.holds Try.pinned (OpenSpec.ofChange fnExactProgOkWrong)

/-- 'laws.FnExactProgTree': WHATEVER THE INPUT: true; the input reads as it did. -/
def fnExactProgTreeSpec : ChangeSpec := { name := "fnExactProgTree", fn := fun _ => fun
  | [d1, d2] => { results := [.lit (.bool true)], args := [d1, d2] }
  | _ => none }
def fnExactProgTreeRow : OpenClaim := { program := "ytpodhdpkdhcnoaa", sum := "53bfc781596d93d36de63448b00f164d9e54be0284fff866d93a746da6f562c9", func := "loop.example/equerry/laws.FnExactProgTree", spec := "fnExactProgTree", recurses := true, apart := false }
def FnExactProgTreeSaid : Prop := fnExactProgTreeRow.holds Try.pinned (OpenSpec.ofChange fnExactProgTreeSpec)

/-- ITS FALSE NEIGHBOUR: 'it returns false'. Refute it at one input. -/
def fnExactProgTreeWrong : ChangeSpec := { name := "fnExactProgTree", fn := fun _ => fun
  | [d1, d2] => { results := [.lit (.bool false)], args := [d1, d2] }
  | _ => none }
def FnExactProgTreeWrongFalsely : Prop := fnExactProgTreeRow.holds Try.pinned (OpenSpec.ofChange fnExactProgTreeWrong)

/- THE SECOND FORM. 'bulk': how many values and letters a reading holds, each counted each time it is reached (what is shared counts as often as it is met; a slice's spare places count too). A statement '..UptoSaid' is the law's where the arguments, and the package variables that the reading takes, are together of bulk at most 1048576: NARROWER than '..Said'. Prove '..Said' where nothing that the law and all that it calls make is longer than what came in: it says more and counts as full. Else prove '..UptoSaid'. A law counts once. -/
mutual
def uptoBulk {H : Type} : DataW H → Nat
  | .lit (.string bytes) => bytes.length + 1
  | .lit _ => 1
  | .nil => 1
  | .ptr d => uptoBulk d + 1
  | .slice elems spare => uptoBulkAll elems + uptoBulkAll spare + 1
  | .agg parts => uptoBulkAll parts + 1
  | .iface _ d => uptoBulk d + 1
  | .map entries => uptoBulkEntries entries + 1
  | .held _ => 1
def uptoBulkAll {H : Type} : List (DataW H) → Nat
  | [] => 0
  | d :: r => uptoBulk d + uptoBulkAll r
def uptoBulkEntries {H : Type} : List (Lit × DataW H) → Nat
  | [] => 0
  | x :: r => uptoBulkEntry x + uptoBulkEntries r
def uptoBulkEntry {H : Type} : Lit × DataW H → Nat
  | (.string bytes, d) => bytes.length + uptoBulk d + 1
  | (_, d) => uptoBulk d + 1
 end
def uptoSmall : (H : Type) → List (DataW H) → Bool := fun _ ds => decide (uptoBulkAll ds ≤ 1048576)
def OpenSpec.upto (s : _root_.Go.ChangeSpec) : _root_.Go.OpenSpec := { _root_.Go.OpenSpec.ofChange s with cond := some uptoSmall }

/-- 'laws.FnExactSysNums', WHERE WHAT IT READS IS OF BULK AT MOST 1048576: true; the input reads as it did. -/
def fnExactSysNumsUptoRow : OpenClaim := { program := "ytpodhdpkdhcnoaa", sum := "53bfc781596d93d36de63448b00f164d9e54be0284fff866d93a746da6f562c9", func := "loop.example/equerry/laws.FnExactSysNums", spec := "fnExactSysNums", apart := false, narrowed := true }
def FnExactSysNumsUptoSaid : Prop := fnExactSysNumsUptoRow.holds Try.pinned (OpenSpec.upto fnExactSysNumsSpec)

/-- 'laws.FnExactSysWays', WHERE WHAT IT READS IS OF BULK AT MOST 1048576: true; the input reads as it did. -/
def fnExactSysWaysUptoRow : OpenClaim := { program := "ytpodhdpkdhcnoaa", sum := "53bfc781596d93d36de63448b00f164d9e54be0284fff866d93a746da6f562c9", func := "loop.example/equerry/laws.FnExactSysWays", spec := "fnExactSysWays", apart := false, narrowed := true }
def FnExactSysWaysUptoSaid : Prop := fnExactSysWaysUptoRow.holds Try.pinned (OpenSpec.upto fnExactSysWaysSpec)

/-- 'laws.FnExactSysHeld', WHERE WHAT IT READS IS OF BULK AT MOST 1048576: true; the input reads as it did. -/
def fnExactSysHeldUptoRow : OpenClaim := { program := "ytpodhdpkdhcnoaa", sum := "53bfc781596d93d36de63448b00f164d9e54be0284fff866d93a746da6f562c9", func := "loop.example/equerry/laws.FnExactSysHeld", spec := "fnExactSysHeld", apart := false, narrowed := true }
def FnExactSysHeldUptoSaid : Prop := fnExactSysHeldUptoRow.holds Try.pinned (OpenSpec.upto fnExactSysHeldSpec)

/-- 'laws.FnExactSysAwait', WHERE WHAT IT READS IS OF BULK AT MOST 1048576: true; the input reads as it did. -/
def fnExactSysAwaitUptoRow : OpenClaim := { program := "ytpodhdpkdhcnoaa", sum := "53bfc781596d93d36de63448b00f164d9e54be0284fff866d93a746da6f562c9", func := "loop.example/equerry/laws.FnExactSysAwait", spec := "fnExactSysAwait", apart := false, narrowed := true }
def FnExactSysAwaitUptoSaid : Prop := fnExactSysAwaitUptoRow.holds Try.pinned (OpenSpec.upto fnExactSysAwaitSpec)

/-- 'laws.FnExactLogTask', WHERE WHAT IT READS IS OF BULK AT MOST 1048576: true; the input reads as it did. -/
def fnExactLogTaskUptoRow : OpenClaim := { program := "ytpodhdpkdhcnoaa", sum := "53bfc781596d93d36de63448b00f164d9e54be0284fff866d93a746da6f562c9", func := "loop.example/equerry/laws.FnExactLogTask", spec := "fnExactLogTask", apart := false, narrowed := true }
def FnExactLogTaskUptoSaid : Prop := fnExactLogTaskUptoRow.holds Try.pinned (OpenSpec.upto fnExactLogTaskSpec)

/-- 'laws.FnExactProgOk', WHERE WHAT IT READS IS OF BULK AT MOST 1048576: true; the input reads as it did. -/
def fnExactProgOkUptoRow : OpenClaim := { program := "ytpodhdpkdhcnoaa", sum := "53bfc781596d93d36de63448b00f164d9e54be0284fff866d93a746da6f562c9", func := "loop.example/equerry/laws.FnExactProgOk", spec := "fnExactProgOk", recurses := true, apart := false, narrowed := true }
def FnExactProgOkUptoSaid : Prop := fnExactProgOkUptoRow.holds Try.pinned (OpenSpec.upto fnExactProgOkSpec)

/-- 'laws.FnExactProgTree', WHERE WHAT IT READS IS OF BULK AT MOST 1048576: true; the input reads as it did. -/
def fnExactProgTreeUptoRow : OpenClaim := { program := "ytpodhdpkdhcnoaa", sum := "53bfc781596d93d36de63448b00f164d9e54be0284fff866d93a746da6f562c9", func := "loop.example/equerry/laws.FnExactProgTree", spec := "fnExactProgTree", recurses := true, apart := false, narrowed := true }
def FnExactProgTreeUptoSaid : Prop := fnExactProgTreeUptoRow.holds Try.pinned (OpenSpec.upto fnExactProgTreeSpec)

end Rows
end Go.Proofs.Ytpodhdpkdhcnoaa
