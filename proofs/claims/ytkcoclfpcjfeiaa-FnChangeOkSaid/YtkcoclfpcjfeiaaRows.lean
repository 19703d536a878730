/-
  No cell of these rows narrows 'for every input' (looked for: loops, veiled, ifaces, maps, wideKeys, modest, calm, conditions, laid).
  DERIVED. THE GIVEN ROWS OF THIS SEAT. 11 by the template 'for every input the law returns true; each argument reads behind the call as it read before'; 0 by the template 'total and deterministic' (their statements: YtkcoclfpcjfeiaaTotals.lean).
  GIVEN WITH THE SEED: the statements are not yours to turn. If you find one false, say at which input.
  Laid BY PROGRAM, IN A SANDBOX (cutbox-rows.mjs): the forced cells as the released guide's own fill.sh prints them over the translation fa4e39afb8c3fff5… (all of the seat's roots in one cut). By AI agents, Wed Nov 11 2026. No macro, syntax, notation, axiom, sorry.
-/
import Derived.Test.YtkcoclfpcjfeiaaChecked
import GoSem.Claim
import GoSem.ClaimJoined
import GoSem.ClaimMapViews
import Derived.JoinedTies
import Derived.KernelRfl
namespace Go.Proofs.Ytkcoclfpcjfeiaa
/- THE CELL 'sum', in the pinned program and in every row, IS THE sha256 OF THE DUMP (.gsa) THAT YtkcoclfpcjfeiaaProg.lean LOADS. Nothing in Lean hashes anything: it is a label: what it is worth is what the hold of that sum in a sandbox is worth. -/
noncomputable def Try.pinned : Pinned := { name := "ytkcoclfpcjfeiaa", sum := "fa4e39afb8c3fff5ba57e5fe459e39347b210c6aa30dbdb38bec367c60449496", checked := Try.checked }
namespace Rows
def none {H : Type} : Left H := { results := [], args := [] }

/-- 'laws.FnExactConstants': WHATEVER THE INPUT: true; the input reads as it did. -/
def fnExactConstantsSpec : ChangeSpec := { name := "fnExactConstants", fn := fun _ => fun
  | [] => { results := [.lit (.bool true)], args := [] }
  | _ => none }
def fnExactConstantsRow : OpenClaim := { program := "ytkcoclfpcjfeiaa", sum := "fa4e39afb8c3fff5ba57e5fe459e39347b210c6aa30dbdb38bec367c60449496", func := "loop.example/equerry/laws.FnExactConstants", spec := "fnExactConstants", apart := false }
def FnExactConstantsSaid : Prop := fnExactConstantsRow.holds Try.pinned (OpenSpec.ofChange fnExactConstantsSpec)

/-- ITS FALSE NEIGHBOUR: 'it returns false'. Refute it at one input. -/
def fnExactConstantsWrong : ChangeSpec := { name := "fnExactConstants", fn := fun _ => fun
  | [] => { results := [.lit (.bool false)], args := [] }
  | _ => none }
def FnExactConstantsWrongFalsely : Prop := fnExactConstantsRow.holds Try.pinned (OpenSpec.ofChange fnExactConstantsWrong)

/-- 'laws.FnExactChangeOk': WHATEVER THE INPUT: true; the input reads as it did. -/
def fnExactChangeOkSpec : ChangeSpec := { name := "fnExactChangeOk", fn := fun _ => fun
  | [d1, d2] => { results := [.lit (.bool true)], args := [d1, d2] }
  | _ => none }
def fnExactChangeOkRow : OpenClaim := { program := "ytkcoclfpcjfeiaa", sum := "fa4e39afb8c3fff5ba57e5fe459e39347b210c6aa30dbdb38bec367c60449496", func := "loop.example/equerry/laws.FnExactChangeOk", spec := "fnExactChangeOk", apart := false }
def FnExactChangeOkSaid : Prop := fnExactChangeOkRow.holds Try.pinned (OpenSpec.ofChange fnExactChangeOkSpec)

/-- ITS FALSE NEIGHBOUR: 'it returns false'. Refute it at one input. -/
def fnExactChangeOkWrong : ChangeSpec := { name := "fnExactChangeOk", fn := fun _ => fun
  | [d1, d2] => { results := [.lit (.bool false)], args := [d1, d2] }
  | _ => none }
def FnExactChangeOkWrongFalsely : Prop := fnExactChangeOkRow.holds Try.pinned (OpenSpec.ofChange fnExactChangeOkWrong)

/-- 'laws.FnChangeOk': WHATEVER THE INPUT: true; the input reads as it did. -/
def fnChangeOkSpec : ChangeSpec := { name := "fnChangeOk", fn := fun _ => fun
  | [d1, d2] => { results := [.lit (.bool true)], args := [d1, d2] }
  | _ => none }
def fnChangeOkRow : OpenClaim := { program := "ytkcoclfpcjfeiaa", sum := "fa4e39afb8c3fff5ba57e5fe459e39347b210c6aa30dbdb38bec367c60449496", func := "loop.example/equerry/laws.FnChangeOk", spec := "fnChangeOk", apart := false }
def FnChangeOkSaid : Prop := fnChangeOkRow.holds Try.pinned (OpenSpec.ofChange fnChangeOkSpec)

/-- ITS FALSE NEIGHBOUR: 'it returns false'. Refute it at one input. -/
def fnChangeOkWrong : ChangeSpec := { name := "fnChangeOk", fn := fun _ => fun
  | [d1, d2] => { results := [.lit (.bool false)], args := [d1, d2] }
  | _ => none }
def FnChangeOkWrongFalsely : Prop := fnChangeOkRow.holds Try.pinned (OpenSpec.ofChange fnChangeOkWrong)

/-- 'laws.FnExactLogReal': WHATEVER THE INPUT: true; the input reads as it did. -/
def fnExactLogRealSpec : ChangeSpec := { name := "fnExactLogReal", fn := fun _ => fun
  | [d] => { results := [.lit (.bool true)], args := [d] }
  | _ => none }
def fnExactLogRealRow : OpenClaim := { program := "ytkcoclfpcjfeiaa", sum := "fa4e39afb8c3fff5ba57e5fe459e39347b210c6aa30dbdb38bec367c60449496", func := "loop.example/equerry/laws.FnExactLogReal", spec := "fnExactLogReal", apart := false }
def FnExactLogRealSaid : Prop := fnExactLogRealRow.holds Try.pinned (OpenSpec.ofChange fnExactLogRealSpec)

/-- ITS FALSE NEIGHBOUR: 'it returns false'. Refute it at one input. -/
def fnExactLogRealWrong : ChangeSpec := { name := "fnExactLogReal", fn := fun _ => fun
  | [d] => { results := [.lit (.bool false)], args := [d] }
  | _ => none }
def FnExactLogRealWrongFalsely : Prop := fnExactLogRealRow.holds Try.pinned (OpenSpec.ofChange fnExactLogRealWrong)

/-- 'laws.FnExactLogTask': WHATEVER THE INPUT: true; the input reads as it did. -/
def fnExactLogTaskSpec : ChangeSpec := { name := "fnExactLogTask", fn := fun _ => fun
  | [d1, d2] => { results := [.lit (.bool true)], args := [d1, d2] }
  | _ => none }
def fnExactLogTaskRow : OpenClaim := { program := "ytkcoclfpcjfeiaa", sum := "fa4e39afb8c3fff5ba57e5fe459e39347b210c6aa30dbdb38bec367c60449496", func := "loop.example/equerry/laws.FnExactLogTask", spec := "fnExactLogTask", apart := false }
def FnExactLogTaskSaid : Prop := fnExactLogTaskRow.holds Try.pinned (OpenSpec.ofChange fnExactLogTaskSpec)

/-- ITS FALSE NEIGHBOUR: 'it returns false'. Refute it at one input. -/
def fnExactLogTaskWrong : ChangeSpec := { name := "fnExactLogTask", fn := fun _ => fun
  | [d1, d2] => { results := [.lit (.bool false)], args := [d1, d2] }
  | _ => none }
def FnExactLogTaskWrongFalsely : Prop := fnExactLogTaskRow.holds Try.pinned (OpenSpec.ofChange fnExactLogTaskWrong)

/-- 'laws.FnExactLogReplay': WHATEVER THE INPUT: true; the input reads as it did. -/
def fnExactLogReplaySpec : ChangeSpec := { name := "fnExactLogReplay", fn := fun _ => fun
  | [d1, d2] => { results := [.lit (.bool true)], args := [d1, d2] }
  | _ => none }
def fnExactLogReplayRow : OpenClaim := { program := "ytkcoclfpcjfeiaa", sum := "fa4e39afb8c3fff5ba57e5fe459e39347b210c6aa30dbdb38bec367c60449496", func := "loop.example/equerry/laws.FnExactLogReplay", spec := "fnExactLogReplay", apart := false }
def FnExactLogReplaySaid : Prop := fnExactLogReplayRow.holds Try.pinned (OpenSpec.ofChange fnExactLogReplaySpec)

/-- ITS FALSE NEIGHBOUR: 'it returns false'. Refute it at one input. -/
def fnExactLogReplayWrong : ChangeSpec := { name := "fnExactLogReplay", fn := fun _ => fun
  | [d1, d2] => { results := [.lit (.bool false)], args := [d1, d2] }
  | _ => none }
def FnExactLogReplayWrongFalsely : Prop := fnExactLogReplayRow.holds Try.pinned (OpenSpec.ofChange fnExactLogReplayWrong)

/-- 'laws.FnExactSysNums': WHATEVER THE INPUT: true; the input reads as it did. -/
def fnExactSysNumsSpec : ChangeSpec := { name := "fnExactSysNums", fn := fun _ => fun
  | [d] => { results := [.lit (.bool true)], args := [d] }
  | _ => none }
def fnExactSysNumsRow : OpenClaim := { program := "ytkcoclfpcjfeiaa", sum := "fa4e39afb8c3fff5ba57e5fe459e39347b210c6aa30dbdb38bec367c60449496", func := "loop.example/equerry/laws.FnExactSysNums", spec := "fnExactSysNums", apart := false }
def FnExactSysNumsSaid : Prop := fnExactSysNumsRow.holds Try.pinned (OpenSpec.ofChange fnExactSysNumsSpec)

/-- ITS FALSE NEIGHBOUR: 'it returns false'. Refute it at one input. -/
def fnExactSysNumsWrong : ChangeSpec := { name := "fnExactSysNums", fn := fun _ => fun
  | [d] => { results := [.lit (.bool false)], args := [d] }
  | _ => none }
def FnExactSysNumsWrongFalsely : Prop := fnExactSysNumsRow.holds Try.pinned (OpenSpec.ofChange fnExactSysNumsWrong)

/-- 'laws.FnExactSysWays': WHATEVER THE INPUT: true; the input reads as it did. -/
def fnExactSysWaysSpec : ChangeSpec := { name := "fnExactSysWays", fn := fun _ => fun
  | [d] => { results := [.lit (.bool true)], args := [d] }
  | _ => none }
def fnExactSysWaysRow : OpenClaim := { program := "ytkcoclfpcjfeiaa", sum := "fa4e39afb8c3fff5ba57e5fe459e39347b210c6aa30dbdb38bec367c60449496", func := "loop.example/equerry/laws.FnExactSysWays", spec := "fnExactSysWays", apart := false }
def FnExactSysWaysSaid : Prop := fnExactSysWaysRow.holds Try.pinned (OpenSpec.ofChange fnExactSysWaysSpec)

/-- ITS FALSE NEIGHBOUR: 'it returns false'. Refute it at one input. -/
def fnExactSysWaysWrong : ChangeSpec := { name := "fnExactSysWays", fn := fun _ => fun
  | [d] => { results := [.lit (.bool false)], args := [d] }
  | _ => none }
def FnExactSysWaysWrongFalsely : Prop := fnExactSysWaysRow.holds Try.pinned (OpenSpec.ofChange fnExactSysWaysWrong)

/-- 'laws.FnExactSysHeld': WHATEVER THE INPUT: true; the input reads as it did. -/
def fnExactSysHeldSpec : ChangeSpec := { name := "fnExactSysHeld", fn := fun _ => fun
  | [d] => { results := [.lit (.bool true)], args := [d] }
  | _ => none }
def fnExactSysHeldRow : OpenClaim := { program := "ytkcoclfpcjfeiaa", sum := "fa4e39afb8c3fff5ba57e5fe459e39347b210c6aa30dbdb38bec367c60449496", func := "loop.example/equerry/laws.FnExactSysHeld", spec := "fnExactSysHeld", apart := false }
def FnExactSysHeldSaid : Prop := fnExactSysHeldRow.holds Try.pinned (OpenSpec.ofChange fnExactSysHeldSpec)

/-- ITS FALSE NEIGHBOUR: 'it returns false'. Refute it at one input. -/
def fnExactSysHeldWrong : ChangeSpec := { name := "fnExactSysHeld", fn := fun _ => fun
  | [d] => { results := [.lit (.bool false)], args := [d] }
  | _ => none }
def FnExactSysHeldWrongFalsely : Prop := fnExactSysHeldRow.holds Try.pinned (OpenSpec.ofChange fnExactSysHeldWrong)

/-- 'laws.FnExactSysAwait': WHATEVER THE INPUT: true; the input reads as it did. -/
def fnExactSysAwaitSpec : ChangeSpec := { name := "fnExactSysAwait", fn := fun _ => fun
  | [d] => { results := [.lit (.bool true)], args := [d] }
  | _ => none }
def fnExactSysAwaitRow : OpenClaim := { program := "ytkcoclfpcjfeiaa", sum := "fa4e39afb8c3fff5ba57e5fe459e39347b210c6aa30dbdb38bec367c60449496", func := "loop.example/equerry/laws.FnExactSysAwait", spec := "fnExactSysAwait", apart := false }
def FnExactSysAwaitSaid : Prop := fnExactSysAwaitRow.holds Try.pinned (OpenSpec.ofChange fnExactSysAwaitSpec)

/-- ITS FALSE NEIGHBOUR: 'it returns false'. Refute it at one input. -/
def fnExactSysAwaitWrong : ChangeSpec := { name := "fnExactSysAwait", fn := fun _ => fun
  | [d] => { results := [.lit (.bool false)], args := [d] }
  | _ => none }
def FnExactSysAwaitWrongFalsely : Prop := fnExactSysAwaitRow.holds Try.pinned (OpenSpec.ofChange fnExactSysAwaitWrong)

/-- 'laws.FnChangeSets': WHATEVER THE INPUT: true; the input reads as it did. -/
def fnChangeSetsSpec : ChangeSpec := { name := "fnChangeSets", fn := fun _ => fun
  | [d] => { results := [.lit (.bool true)], args := [d] }
  | _ => none }
def fnChangeSetsRow : OpenClaim := { program := "ytkcoclfpcjfeiaa", sum := "fa4e39afb8c3fff5ba57e5fe459e39347b210c6aa30dbdb38bec367c60449496", func := "loop.example/equerry/laws.FnChangeSets", spec := "fnChangeSets", inPlace := ["slices.overlaps[int]"], apart := false }
def FnChangeSetsSaid : Prop := fnChangeSetsRow.holds Try.pinned (OpenSpec.ofChange fnChangeSetsSpec)

/-- ITS FALSE NEIGHBOUR: 'it returns false'. Refute it at one input. -/
def fnChangeSetsWrong : ChangeSpec := { name := "fnChangeSets", fn := fun _ => fun
  | [d] => { results := [.lit (.bool false)], args := [d] }
  | _ => none }
def FnChangeSetsWrongFalsely : Prop := fnChangeSetsRow.holds Try.pinned (OpenSpec.ofChange fnChangeSetsWrong)

/- THE SECOND FORM. 'bulk': how many values and letters a reading holds, each counted each time it is reached (what is shared counts as often as it is met; a slice's spare places count too). A statement '..UptoSaid' is the law's where the arguments, and the package variables that the reading takes, are together of bulk at most 1048576: NARROWER than '..Said'. Prove '..Said' where nothing that the law and all that it calls make is longer than what came in: it says more and counts as full. Else prove '..UptoSaid'. A law counts once. -/
mutual
def uptoBulk {H : Type} : DataW H → Nat
  | .lit (.string bytes) => bytes.length + 1
  | .lit _ => 1
  | .nil => 1
  | .ptr d => uptoBulk d + 1
  | .slice elems spare => uptoBulkAll elems + uptoBulkAll spare + 1
  | .agg parts => uptoBulkAll parts + 1
  | .iface _ d => uptoBulk d + 1
  | .map entries => uptoBulkEntries entries + 1
  | .held _ => 1
def uptoBulkAll {H : Type} : List (DataW H) → Nat
  | [] => 0
  | d :: r => uptoBulk d + uptoBulkAll r
def uptoBulkEntries {H : Type} : List (Lit × DataW H) → Nat
  | [] => 0
  | x :: r => uptoBulkEntry x + uptoBulkEntries r
def uptoBulkEntry {H : Type} : Lit × DataW H → Nat
  | (.string bytes, d) => bytes.length + uptoBulk d + 1
  | (_, d) => uptoBulk d + 1
 end
def uptoSmall : (H : Type) → List (DataW H) → Bool := fun _ ds => decide (uptoBulkAll ds ≤ 1048576)
def OpenSpec.upto (s : _root_.Go.ChangeSpec) : _root_.Go.OpenSpec := { _root_.Go.OpenSpec.ofChange s with cond := some uptoSmall }

/-- 'laws.FnExactConstants', WHERE WHAT IT READS IS OF BULK AT MOST 1048576: true; the input reads as it did. -/
def fnExactConstantsUptoRow : OpenClaim := { program := "ytkcoclfpcjfeiaa", sum := "fa4e39afb8c3fff5ba57e5fe459e39347b210c6aa30dbdb38bec367c60449496", func := "loop.example/equerry/laws.FnExactConstants", spec := "fnExactConstants", apart := false, narrowed := true }
def FnExactConstantsUptoSaid : Prop := fnExactConstantsUptoRow.holds Try.pinned (OpenSpec.upto fnExactConstantsSpec)

/-- 'laws.FnExactChangeOk', WHERE WHAT IT READS IS OF BULK AT MOST 1048576: true; the input reads as it did. -/
def fnExactChangeOkUptoRow : OpenClaim := { program := "ytkcoclfpcjfeiaa", sum := "fa4e39afb8c3fff5ba57e5fe459e39347b210c6aa30dbdb38bec367c60449496", func := "loop.example/equerry/laws.FnExactChangeOk", spec := "fnExactChangeOk", apart := false, narrowed := true }
def FnExactChangeOkUptoSaid : Prop := fnExactChangeOkUptoRow.holds Try.pinned (OpenSpec.upto fnExactChangeOkSpec)

/-- 'laws.FnChangeOk', WHERE WHAT IT READS IS OF BULK AT MOST 1048576: true; the input reads as it did. -/
def fnChangeOkUptoRow : OpenClaim := { program := "ytkcoclfpcjfeiaa", sum := "fa4e39afb8c3fff5ba57e5fe459e39347b210c6aa30dbdb38bec367c60449496", func := "loop.example/equerry/laws.FnChangeOk", spec := "fnChangeOk", apart := false, narrowed := true }
def FnChangeOkUptoSaid : Prop := fnChangeOkUptoRow.holds Try.pinned (OpenSpec.upto fnChangeOkSpec)

/-- 'laws.FnExactLogReal', WHERE WHAT IT READS IS OF BULK AT MOST 1048576: true; the input reads as it did. -/
def fnExactLogRealUptoRow : OpenClaim := { program := "ytkcoclfpcjfeiaa", sum := "fa4e39afb8c3fff5ba57e5fe459e39347b210c6aa30dbdb38bec367c60449496", func := "loop.example/equerry/laws.FnExactLogReal", spec := "fnExactLogReal", apart := false, narrowed := true }
def FnExactLogRealUptoSaid : Prop := fnExactLogRealUptoRow.holds Try.pinned (OpenSpec.upto fnExactLogRealSpec)

/-- 'laws.FnExactLogTask', WHERE WHAT IT READS IS OF BULK AT MOST 1048576: true; the input reads as it did. -/
def fnExactLogTaskUptoRow : OpenClaim := { program := "ytkcoclfpcjfeiaa", sum := "fa4e39afb8c3fff5ba57e5fe459e39347b210c6aa30dbdb38bec367c60449496", func := "loop.example/equerry/laws.FnExactLogTask", spec := "fnExactLogTask", apart := false, narrowed := true }
def FnExactLogTaskUptoSaid : Prop := fnExactLogTaskUptoRow.holds Try.pinned (OpenSpec.upto fnExactLogTaskSpec)

/-- 'laws.FnExactLogReplay', WHERE WHAT IT READS IS OF BULK AT MOST 1048576: true; the input reads as it did. -/
def fnExactLogReplayUptoRow : OpenClaim := { program := "ytkcoclfpcjfeiaa", sum := "fa4e39afb8c3fff5ba57e5fe459e39347b210c6aa30dbdb38bec367c60449496", func := "loop.example/equerry/laws.FnExactLogReplay", spec := "fnExactLogReplay", apart := false, narrowed := true }
def FnExactLogReplayUptoSaid : Prop := fnExactLogReplayUptoRow.holds Try.pinned (OpenSpec.upto fnExactLogReplaySpec)

/-- 'laws.FnExactSysNums', WHERE WHAT IT READS IS OF BULK AT MOST 1048576: true; the input reads as it did. -/
def fnExactSysNumsUptoRow : OpenClaim := { program := "ytkcoclfpcjfeiaa", sum := "fa4e39afb8c3fff5ba57e5fe459e39347b210c6aa30dbdb38bec367c60449496", func := "loop.example/equerry/laws.FnExactSysNums", spec := "fnExactSysNums", apart := false, narrowed := true }
def FnExactSysNumsUptoSaid : Prop := fnExactSysNumsUptoRow.holds Try.pinned (OpenSpec.upto fnExactSysNumsSpec)

/-- 'laws.FnExactSysWays', WHERE WHAT IT READS IS OF BULK AT MOST 1048576: true; the input reads as it did. -/
def fnExactSysWaysUptoRow : OpenClaim := { program := "ytkcoclfpcjfeiaa", sum := "fa4e39afb8c3fff5ba57e5fe459e39347b210c6aa30dbdb38bec367c60449496", func := "loop.example/equerry/laws.FnExactSysWays", spec := "fnExactSysWays", apart := false, narrowed := true }
def FnExactSysWaysUptoSaid : Prop := fnExactSysWaysUptoRow.holds Try.pinned (OpenSpec.upto fnExactSysWaysSpec)

/-- 'laws.FnExactSysHeld', WHERE WHAT IT READS IS OF BULK AT MOST 1048576: true; the input reads as it did. -/
def fnExactSysHeldUptoRow : OpenClaim := { program := "ytkcoclfpcjfeiaa", sum := "fa4e39afb8c3fff5ba57e5fe459e39347b210c6aa30dbdb38bec367c60449496", func := "loop.example/equerry/laws.FnExactSysHeld", spec := "fnExactSysHeld", apart := false, narrowed := true }
def FnExactSysHeldUptoSaid : Prop := fnExactSysHeldUptoRow.holds Try.pinned (OpenSpec.upto fnExactSysHeldSpec)

/-- 'laws.FnExactSysAwait', WHERE WHAT IT READS IS OF BULK AT MOST 1048576: true; the input reads as it did. -/
def fnExactSysAwaitUptoRow : OpenClaim := { program := "ytkcoclfpcjfeiaa", sum := "fa4e39afb8c3fff5ba57e5fe459e39347b210c6aa30dbdb38bec367c60449496", func := "loop.example/equerry/laws.FnExactSysAwait", spec := "fnExactSysAwait", apart := false, narrowed := true }
def FnExactSysAwaitUptoSaid : Prop := fnExactSysAwaitUptoRow.holds Try.pinned (OpenSpec.upto fnExactSysAwaitSpec)

/-- 'laws.FnChangeSets', WHERE WHAT IT READS IS OF BULK AT MOST 1048576: true; the input reads as it did. -/
def fnChangeSetsUptoRow : OpenClaim := { program := "ytkcoclfpcjfeiaa", sum := "fa4e39afb8c3fff5ba57e5fe459e39347b210c6aa30dbdb38bec367c60449496", func := "loop.example/equerry/laws.FnChangeSets", spec := "fnChangeSets", inPlace := ["slices.overlaps[int]"], apart := false, narrowed := true }
def FnChangeSetsUptoSaid : Prop := fnChangeSetsUptoRow.holds Try.pinned (OpenSpec.upto fnChangeSetsSpec)

end Rows
end Go.Proofs.Ytkcoclfpcjfeiaa
