/-
  No cell of these rows narrows 'for every input' (looked for: loops, veiled, ifaces, maps, wideKeys, modest, calm, conditions, laid).
  DERIVED. THE GIVEN ROWS OF THIS SEAT. 12 by the template 'for every input the law returns true; each argument reads behind the call as it read before'; 0 by the template 'total and deterministic' (their statements: YtppapibjbjmmbaaTotals.lean).
  GIVEN WITH THE SEED: the statements are not yours to turn. If you find one false, say at which input.
  Laid BY PROGRAM, IN A SANDBOX (cutbox-rows.mjs): the forced cells as the released guide's own fill.sh prints them over the translation 250ef34d67e39a20… (all of the seat's roots in one cut). By AI agents, Wed Nov 11 2026. No macro, syntax, notation, axiom, sorry.
-/
import Derived.Test.YtppapibjbjmmbaaChecked
import GoSem.Claim
import GoSem.ClaimJoined
import GoSem.ClaimMapViews
import Derived.JoinedTies
import Derived.KernelRfl
namespace Go.Proofs.Ytppapibjbjmmbaa
/- THE CELL 'sum', in the pinned program and in every row, IS THE sha256 OF THE DUMP (.gsa) THAT YtppapibjbjmmbaaProg.lean LOADS. Nothing in Lean hashes anything: it is a label: what it is worth is what the hold of that sum in a sandbox is worth. -/
noncomputable def Try.pinned : Pinned := { name := "ytppapibjbjmmbaa", sum := "250ef34d67e39a208d34df46a8a7eb9ea0fb2f2a772676b8f3af2eb4ffe1e8fc", checked := Try.checked }
namespace Rows
def none {H : Type} : Left H := { results := [], args := [] }

/-- 'laws.FnSysNums': WHATEVER THE INPUT: true; the input reads as it did. -/
def fnSysNumsSpec : ChangeSpec := { name := "fnSysNums", fn := fun _ => fun
  | [d] => { results := [.lit (.bool true)], args := [d] }
  | _ => none }
def fnSysNumsRow : OpenClaim := { program := "ytppapibjbjmmbaa", sum := "250ef34d67e39a208d34df46a8a7eb9ea0fb2f2a772676b8f3af2eb4ffe1e8fc", func := "loop.example/equerry/laws.FnSysNums", spec := "fnSysNums", recurses := true, apart := false }
def FnSysNumsSaid : Prop := fnSysNumsRow.holds Try.pinned (OpenSpec.ofChange fnSysNumsSpec)

/-- ITS FALSE NEIGHBOUR: 'it returns false'. Refute it at one input. -/
def fnSysNumsWrong : ChangeSpec := { name := "fnSysNums", fn := fun _ => fun
  | [d] => { results := [.lit (.bool false)], args := [d] }
  | _ => none }
def FnSysNumsWrongFalsely : Prop := fnSysNumsRow.holds Try.pinned (OpenSpec.ofChange fnSysNumsWrong)

/-- 'laws.FnSysHeld': WHATEVER THE INPUT: true; the input reads as it did. -/
def fnSysHeldSpec : ChangeSpec := { name := "fnSysHeld", fn := fun _ => fun
  | [d] => { results := [.lit (.bool true)], args := [d] }
  | _ => none }
def fnSysHeldRow : OpenClaim := { program := "ytppapibjbjmmbaa", sum := "250ef34d67e39a208d34df46a8a7eb9ea0fb2f2a772676b8f3af2eb4ffe1e8fc", func := "loop.example/equerry/laws.FnSysHeld", spec := "fnSysHeld", recurses := true, apart := false }
def FnSysHeldSaid : Prop := fnSysHeldRow.holds Try.pinned (OpenSpec.ofChange fnSysHeldSpec)

/-- ITS FALSE NEIGHBOUR: 'it returns false'. Refute it at one input. -/
def fnSysHeldWrong : ChangeSpec := { name := "fnSysHeld", fn := fun _ => fun
  | [d] => { results := [.lit (.bool false)], args := [d] }
  | _ => none }
def FnSysHeldWrongFalsely : Prop := fnSysHeldRow.holds Try.pinned (OpenSpec.ofChange fnSysHeldWrong)

/-- 'laws.FnSysHeldFew': WHATEVER THE INPUT: true; the input reads as it did. -/
def fnSysHeldFewSpec : ChangeSpec := { name := "fnSysHeldFew", fn := fun _ => fun
  | [d] => { results := [.lit (.bool true)], args := [d] }
  | _ => none }
def fnSysHeldFewRow : OpenClaim := { program := "ytppapibjbjmmbaa", sum := "250ef34d67e39a208d34df46a8a7eb9ea0fb2f2a772676b8f3af2eb4ffe1e8fc", func := "loop.example/equerry/laws.FnSysHeldFew", spec := "fnSysHeldFew", recurses := true, apart := false }
def FnSysHeldFewSaid : Prop := fnSysHeldFewRow.holds Try.pinned (OpenSpec.ofChange fnSysHeldFewSpec)

/-- ITS FALSE NEIGHBOUR: 'it returns false'. Refute it at one input. -/
def fnSysHeldFewWrong : ChangeSpec := { name := "fnSysHeldFew", fn := fun _ => fun
  | [d] => { results := [.lit (.bool false)], args := [d] }
  | _ => none }
def FnSysHeldFewWrongFalsely : Prop := fnSysHeldFewRow.holds Try.pinned (OpenSpec.ofChange fnSysHeldFewWrong)

/-- 'laws.FnLogReal': WHATEVER THE INPUT: true; the input reads as it did. -/
def fnLogRealSpec : ChangeSpec := { name := "fnLogReal", fn := fun _ => fun
  | [d] => { results := [.lit (.bool true)], args := [d] }
  | _ => none }
def fnLogRealRow : OpenClaim := { program := "ytppapibjbjmmbaa", sum := "250ef34d67e39a208d34df46a8a7eb9ea0fb2f2a772676b8f3af2eb4ffe1e8fc", func := "loop.example/equerry/laws.FnLogReal", spec := "fnLogReal", recurses := true, apart := false }
def FnLogRealSaid : Prop := fnLogRealRow.holds Try.pinned (OpenSpec.ofChange fnLogRealSpec)

/-- ITS FALSE NEIGHBOUR: 'it returns false'. Refute it at one input. -/
def fnLogRealWrong : ChangeSpec := { name := "fnLogReal", fn := fun _ => fun
  | [d] => { results := [.lit (.bool false)], args := [d] }
  | _ => none }
def FnLogRealWrongFalsely : Prop := fnLogRealRow.holds Try.pinned (OpenSpec.ofChange fnLogRealWrong)

/-- 'laws.FnLogRealCut': WHATEVER THE INPUT: true; the input reads as it did. -/
def fnLogRealCutSpec : ChangeSpec := { name := "fnLogRealCut", fn := fun _ => fun
  | [d1, d2] => { results := [.lit (.bool true)], args := [d1, d2] }
  | _ => none }
def fnLogRealCutRow : OpenClaim := { program := "ytppapibjbjmmbaa", sum := "250ef34d67e39a208d34df46a8a7eb9ea0fb2f2a772676b8f3af2eb4ffe1e8fc", func := "loop.example/equerry/laws.FnLogRealCut", spec := "fnLogRealCut", recurses := true, apart := false }
def FnLogRealCutSaid : Prop := fnLogRealCutRow.holds Try.pinned (OpenSpec.ofChange fnLogRealCutSpec)

/-- ITS FALSE NEIGHBOUR: 'it returns false'. Refute it at one input. -/
def fnLogRealCutWrong : ChangeSpec := { name := "fnLogRealCut", fn := fun _ => fun
  | [d1, d2] => { results := [.lit (.bool false)], args := [d1, d2] }
  | _ => none }
def FnLogRealCutWrongFalsely : Prop := fnLogRealCutRow.holds Try.pinned (OpenSpec.ofChange fnLogRealCutWrong)

/-- 'laws.FnLogTask': WHATEVER THE INPUT: true; the input reads as it did. -/
def fnLogTaskSpec : ChangeSpec := { name := "fnLogTask", fn := fun _ => fun
  | [d] => { results := [.lit (.bool true)], args := [d] }
  | _ => none }
def fnLogTaskRow : OpenClaim := { program := "ytppapibjbjmmbaa", sum := "250ef34d67e39a208d34df46a8a7eb9ea0fb2f2a772676b8f3af2eb4ffe1e8fc", func := "loop.example/equerry/laws.FnLogTask", spec := "fnLogTask", recurses := true, apart := false }
def FnLogTaskSaid : Prop := fnLogTaskRow.holds Try.pinned (OpenSpec.ofChange fnLogTaskSpec)

/-- ITS FALSE NEIGHBOUR: 'it returns false'. Refute it at one input. -/
def fnLogTaskWrong : ChangeSpec := { name := "fnLogTask", fn := fun _ => fun
  | [d] => { results := [.lit (.bool false)], args := [d] }
  | _ => none }
def FnLogTaskWrongFalsely : Prop := fnLogTaskRow.holds Try.pinned (OpenSpec.ofChange fnLogTaskWrong)

/-- 'laws.FnLogReplayCut': WHATEVER THE INPUT: true; the input reads as it did. -/
def fnLogReplayCutSpec : ChangeSpec := { name := "fnLogReplayCut", fn := fun _ => fun
  | [d1, d2] => { results := [.lit (.bool true)], args := [d1, d2] }
  | _ => none }
def fnLogReplayCutRow : OpenClaim := { program := "ytppapibjbjmmbaa", sum := "250ef34d67e39a208d34df46a8a7eb9ea0fb2f2a772676b8f3af2eb4ffe1e8fc", func := "loop.example/equerry/laws.FnLogReplayCut", spec := "fnLogReplayCut", recurses := true, apart := false }
def FnLogReplayCutSaid : Prop := fnLogReplayCutRow.holds Try.pinned (OpenSpec.ofChange fnLogReplayCutSpec)

/-- ITS FALSE NEIGHBOUR: 'it returns false'. Refute it at one input. -/
def fnLogReplayCutWrong : ChangeSpec := { name := "fnLogReplayCut", fn := fun _ => fun
  | [d1, d2] => { results := [.lit (.bool false)], args := [d1, d2] }
  | _ => none }
def FnLogReplayCutWrongFalsely : Prop := fnLogReplayCutRow.holds Try.pinned (OpenSpec.ofChange fnLogReplayCutWrong)

/-- 'laws.FnLogReplayNone': WHATEVER THE INPUT: true; the input reads as it did. -/
def fnLogReplayNoneSpec : ChangeSpec := { name := "fnLogReplayNone", fn := fun _ => fun
  | [d] => { results := [.lit (.bool true)], args := [d] }
  | _ => none }
def fnLogReplayNoneRow : OpenClaim := { program := "ytppapibjbjmmbaa", sum := "250ef34d67e39a208d34df46a8a7eb9ea0fb2f2a772676b8f3af2eb4ffe1e8fc", func := "loop.example/equerry/laws.FnLogReplayNone", spec := "fnLogReplayNone", recurses := true, apart := false }
def FnLogReplayNoneSaid : Prop := fnLogReplayNoneRow.holds Try.pinned (OpenSpec.ofChange fnLogReplayNoneSpec)

/-- ITS FALSE NEIGHBOUR: 'it returns false'. Refute it at one input. -/
def fnLogReplayNoneWrong : ChangeSpec := { name := "fnLogReplayNone", fn := fun _ => fun
  | [d] => { results := [.lit (.bool false)], args := [d] }
  | _ => none }
def FnLogReplayNoneWrongFalsely : Prop := fnLogReplayNoneRow.holds Try.pinned (OpenSpec.ofChange fnLogReplayNoneWrong)

/-- 'laws.FnLogReplayRead': WHATEVER THE INPUT: true; the input reads as it did. -/
def fnLogReplayReadSpec : ChangeSpec := { name := "fnLogReplayRead", fn := fun _ => fun
  | [d] => { results := [.lit (.bool true)], args := [d] }
  | _ => none }
def fnLogReplayReadRow : OpenClaim := { program := "ytppapibjbjmmbaa", sum := "250ef34d67e39a208d34df46a8a7eb9ea0fb2f2a772676b8f3af2eb4ffe1e8fc", func := "loop.example/equerry/laws.FnLogReplayRead", spec := "fnLogReplayRead", recurses := true, apart := false }
def FnLogReplayReadSaid : Prop := fnLogReplayReadRow.holds Try.pinned (OpenSpec.ofChange fnLogReplayReadSpec)

/-- ITS FALSE NEIGHBOUR: 'it returns false'. Refute it at one input. -/
def fnLogReplayReadWrong : ChangeSpec := { name := "fnLogReplayRead", fn := fun _ => fun
  | [d] => { results := [.lit (.bool false)], args := [d] }
  | _ => none }
def FnLogReplayReadWrongFalsely : Prop := fnLogReplayReadRow.holds Try.pinned (OpenSpec.ofChange fnLogReplayReadWrong)

/-- 'laws.FnExactLogOrder': WHATEVER THE INPUT: true; the input reads as it did. -/
def fnExactLogOrderSpec : ChangeSpec := { name := "fnExactLogOrder", fn := fun _ => fun
  | [d] => { results := [.lit (.bool true)], args := [d] }
  | _ => none }
def fnExactLogOrderRow : OpenClaim := { program := "ytppapibjbjmmbaa", sum := "250ef34d67e39a208d34df46a8a7eb9ea0fb2f2a772676b8f3af2eb4ffe1e8fc", func := "loop.example/equerry/laws.FnExactLogOrder", spec := "fnExactLogOrder", unfollowed := true, recurses := true, apart := false }
def FnExactLogOrderSaid : Prop := fnExactLogOrderRow.holds Try.pinned (OpenSpec.ofChange fnExactLogOrderSpec)

/-- ITS FALSE NEIGHBOUR: 'it returns false'. Refute it at one input. -/
def fnExactLogOrderWrong : ChangeSpec := { name := "fnExactLogOrder", fn := fun _ => fun
  | [d] => { results := [.lit (.bool false)], args := [d] }
  | _ => none }
def FnExactLogOrderWrongFalsely : Prop := fnExactLogOrderRow.holds Try.pinned (OpenSpec.ofChange fnExactLogOrderWrong)

/-- 'laws.FnExactLogLast': WHATEVER THE INPUT: true; the input reads as it did. -/
def fnExactLogLastSpec : ChangeSpec := { name := "fnExactLogLast", fn := fun _ => fun
  | [d1, d2] => { results := [.lit (.bool true)], args := [d1, d2] }
  | _ => none }
def fnExactLogLastRow : OpenClaim := { program := "ytppapibjbjmmbaa", sum := "250ef34d67e39a208d34df46a8a7eb9ea0fb2f2a772676b8f3af2eb4ffe1e8fc", func := "loop.example/equerry/laws.FnExactLogLast", spec := "fnExactLogLast", unfollowed := true, recurses := true, apart := false }
def FnExactLogLastSaid : Prop := fnExactLogLastRow.holds Try.pinned (OpenSpec.ofChange fnExactLogLastSpec)

/-- ITS FALSE NEIGHBOUR: 'it returns false'. Refute it at one input. -/
def fnExactLogLastWrong : ChangeSpec := { name := "fnExactLogLast", fn := fun _ => fun
  | [d1, d2] => { results := [.lit (.bool false)], args := [d1, d2] }
  | _ => none }
def FnExactLogLastWrongFalsely : Prop := fnExactLogLastRow.holds Try.pinned (OpenSpec.ofChange fnExactLogLastWrong)

/-- 'laws.FnExactLogSeen': WHATEVER THE INPUT: true; the input reads as it did. -/
def fnExactLogSeenSpec : ChangeSpec := { name := "fnExactLogSeen", fn := fun _ => fun
  | [d1, d2, d3] => { results := [.lit (.bool true)], args := [d1, d2, d3] }
  | _ => none }
def fnExactLogSeenRow : OpenClaim := { program := "ytppapibjbjmmbaa", sum := "250ef34d67e39a208d34df46a8a7eb9ea0fb2f2a772676b8f3af2eb4ffe1e8fc", func := "loop.example/equerry/laws.FnExactLogSeen", spec := "fnExactLogSeen", unfollowed := true, recurses := true, apart := false }
def FnExactLogSeenSaid : Prop := fnExactLogSeenRow.holds Try.pinned (OpenSpec.ofChange fnExactLogSeenSpec)

/-- ITS FALSE NEIGHBOUR: 'it returns false'. Refute it at one input. -/
def fnExactLogSeenWrong : ChangeSpec := { name := "fnExactLogSeen", fn := fun _ => fun
  | [d1, d2, d3] => { results := [.lit (.bool false)], args := [d1, d2, d3] }
  | _ => none }
def FnExactLogSeenWrongFalsely : Prop := fnExactLogSeenRow.holds Try.pinned (OpenSpec.ofChange fnExactLogSeenWrong)

/- THE SECOND FORM. 'bulk': how many values and letters a reading holds, each counted each time it is reached (what is shared counts as often as it is met; a slice's spare places count too). A statement '..UptoSaid' is the law's where the arguments, and the package variables that the reading takes, are together of bulk at most 1048576: NARROWER than '..Said'. Prove '..Said' where nothing that the law and all that it calls make is longer than what came in: it says more and counts as full. Else prove '..UptoSaid'. A law counts once. -/
mutual
def uptoBulk {H : Type} : DataW H → Nat
  | .lit (.string bytes) => bytes.length + 1
  | .lit _ => 1
  | .nil => 1
  | .ptr d => uptoBulk d + 1
  | .slice elems spare => uptoBulkAll elems + uptoBulkAll spare + 1
  | .agg parts => uptoBulkAll parts + 1
  | .iface _ d => uptoBulk d + 1
  | .map entries => uptoBulkEntries entries + 1
  | .held _ => 1
def uptoBulkAll {H : Type} : List (DataW H) → Nat
  | [] => 0
  | d :: r => uptoBulk d + uptoBulkAll r
def uptoBulkEntries {H : Type} : List (Lit × DataW H) → Nat
  | [] => 0
  | x :: r => uptoBulkEntry x + uptoBulkEntries r
def uptoBulkEntry {H : Type} : Lit × DataW H → Nat
  | (.string bytes, d) => bytes.length + uptoBulk d + 1
  | (_, d) => uptoBulk d + 1
 end
def uptoSmall : (H : Type) → List (DataW H) → Bool := fun _ ds => decide (uptoBulkAll ds ≤ 1048576)
def OpenSpec.upto (s : _root_.Go.ChangeSpec) : _root_.Go.OpenSpec := { _root_.Go.OpenSpec.ofChange s with cond := some uptoSmall }

/-- 'laws.FnSysNums', WHERE WHAT IT READS IS OF BULK AT MOST 1048576: true; the input reads as it did. -/
def fnSysNumsUptoRow : OpenClaim := { program := "ytppapibjbjmmbaa", sum := "250ef34d67e39a208d34df46a8a7eb9ea0fb2f2a772676b8f3af2eb4ffe1e8fc", func := "loop.example/equerry/laws.FnSysNums", spec := "fnSysNums", recurses := true, apart := false, narrowed := true }
def FnSysNumsUptoSaid : Prop := fnSysNumsUptoRow.holds Try.pinned (OpenSpec.upto fnSysNumsSpec)

/-- 'laws.FnSysHeld', WHERE WHAT IT READS IS OF BULK AT MOST 1048576: true; the input reads as it did. -/
def fnSysHeldUptoRow : OpenClaim := { program := "ytppapibjbjmmbaa", sum := "250ef34d67e39a208d34df46a8a7eb9ea0fb2f2a772676b8f3af2eb4ffe1e8fc", func := "loop.example/equerry/laws.FnSysHeld", spec := "fnSysHeld", recurses := true, apart := false, narrowed := true }
def FnSysHeldUptoSaid : Prop := fnSysHeldUptoRow.holds Try.pinned (OpenSpec.upto fnSysHeldSpec)

/-- 'laws.FnSysHeldFew', WHERE WHAT IT READS IS OF BULK AT MOST 1048576: true; the input reads as it did. -/
def fnSysHeldFewUptoRow : OpenClaim := { program := "ytppapibjbjmmbaa", sum := "250ef34d67e39a208d34df46a8a7eb9ea0fb2f2a772676b8f3af2eb4ffe1e8fc", func := "loop.example/equerry/laws.FnSysHeldFew", spec := "fnSysHeldFew", recurses := true, apart := false, narrowed := true }
def FnSysHeldFewUptoSaid : Prop := fnSysHeldFewUptoRow.holds Try.pinned (OpenSpec.upto fnSysHeldFewSpec)

/-- 'laws.FnLogReal', WHERE WHAT IT READS IS OF BULK AT MOST 1048576: true; the input reads as it did. -/
def fnLogRealUptoRow : OpenClaim := { program := "ytppapibjbjmmbaa", sum := "250ef34d67e39a208d34df46a8a7eb9ea0fb2f2a772676b8f3af2eb4ffe1e8fc", func := "loop.example/equerry/laws.FnLogReal", spec := "fnLogReal", recurses := true, apart := false, narrowed := true }
def FnLogRealUptoSaid : Prop := fnLogRealUptoRow.holds Try.pinned (OpenSpec.upto fnLogRealSpec)

/-- 'laws.FnLogRealCut', WHERE WHAT IT READS IS OF BULK AT MOST 1048576: true; the input reads as it did. -/
def fnLogRealCutUptoRow : OpenClaim := { program := "ytppapibjbjmmbaa", sum := "250ef34d67e39a208d34df46a8a7eb9ea0fb2f2a772676b8f3af2eb4ffe1e8fc", func := "loop.example/equerry/laws.FnLogRealCut", spec := "fnLogRealCut", recurses := true, apart := false, narrowed := true }
def FnLogRealCutUptoSaid : Prop := fnLogRealCutUptoRow.holds Try.pinned (OpenSpec.upto fnLogRealCutSpec)

/-- 'laws.FnLogTask', WHERE WHAT IT READS IS OF BULK AT MOST 1048576: true; the input reads as it did. -/
def fnLogTaskUptoRow : OpenClaim := { program := "ytppapibjbjmmbaa", sum := "250ef34d67e39a208d34df46a8a7eb9ea0fb2f2a772676b8f3af2eb4ffe1e8fc", func := "loop.example/equerry/laws.FnLogTask", spec := "fnLogTask", recurses := true, apart := false, narrowed := true }
def FnLogTaskUptoSaid : Prop := fnLogTaskUptoRow.holds Try.pinned (OpenSpec.upto fnLogTaskSpec)

/-- 'laws.FnLogReplayCut', WHERE WHAT IT READS IS OF BULK AT MOST 1048576: true; the input reads as it did. -/
def fnLogReplayCutUptoRow : OpenClaim := { program := "ytppapibjbjmmbaa", sum := "250ef34d67e39a208d34df46a8a7eb9ea0fb2f2a772676b8f3af2eb4ffe1e8fc", func := "loop.example/equerry/laws.FnLogReplayCut", spec := "fnLogReplayCut", recurses := true, apart := false, narrowed := true }
def FnLogReplayCutUptoSaid : Prop := fnLogReplayCutUptoRow.holds Try.pinned (OpenSpec.upto fnLogReplayCutSpec)

/-- 'laws.FnLogReplayNone', WHERE WHAT IT READS IS OF BULK AT MOST 1048576: true; the input reads as it did. -/
def fnLogReplayNoneUptoRow : OpenClaim := { program := "ytppapibjbjmmbaa", sum := "250ef34d67e39a208d34df46a8a7eb9ea0fb2f2a772676b8f3af2eb4ffe1e8fc", func := "loop.example/equerry/laws.FnLogReplayNone", spec := "fnLogReplayNone", recurses := true, apart := false, narrowed := true }
def FnLogReplayNoneUptoSaid : Prop := fnLogReplayNoneUptoRow.holds Try.pinned (OpenSpec.upto fnLogReplayNoneSpec)

/-- 'laws.FnLogReplayRead', WHERE WHAT IT READS IS OF BULK AT MOST 1048576: true; the input reads as it did. -/
def fnLogReplayReadUptoRow : OpenClaim := { program := "ytppapibjbjmmbaa", sum := "250ef34d67e39a208d34df46a8a7eb9ea0fb2f2a772676b8f3af2eb4ffe1e8fc", func := "loop.example/equerry/laws.FnLogReplayRead", spec := "fnLogReplayRead", recurses := true, apart := false, narrowed := true }
def FnLogReplayReadUptoSaid : Prop := fnLogReplayReadUptoRow.holds Try.pinned (OpenSpec.upto fnLogReplayReadSpec)

/-- 'laws.FnExactLogOrder', WHERE WHAT IT READS IS OF BULK AT MOST 1048576: true; the input reads as it did. -/
def fnExactLogOrderUptoRow : OpenClaim := { program := "ytppapibjbjmmbaa", sum := "250ef34d67e39a208d34df46a8a7eb9ea0fb2f2a772676b8f3af2eb4ffe1e8fc", func := "loop.example/equerry/laws.FnExactLogOrder", spec := "fnExactLogOrder", unfollowed := true, recurses := true, apart := false, narrowed := true }
def FnExactLogOrderUptoSaid : Prop := fnExactLogOrderUptoRow.holds Try.pinned (OpenSpec.upto fnExactLogOrderSpec)

/-- 'laws.FnExactLogLast', WHERE WHAT IT READS IS OF BULK AT MOST 1048576: true; the input reads as it did. -/
def fnExactLogLastUptoRow : OpenClaim := { program := "ytppapibjbjmmbaa", sum := "250ef34d67e39a208d34df46a8a7eb9ea0fb2f2a772676b8f3af2eb4ffe1e8fc", func := "loop.example/equerry/laws.FnExactLogLast", spec := "fnExactLogLast", unfollowed := true, recurses := true, apart := false, narrowed := true }
def FnExactLogLastUptoSaid : Prop := fnExactLogLastUptoRow.holds Try.pinned (OpenSpec.upto fnExactLogLastSpec)

/-- 'laws.FnExactLogSeen', WHERE WHAT IT READS IS OF BULK AT MOST 1048576: true; the input reads as it did. -/
def fnExactLogSeenUptoRow : OpenClaim := { program := "ytppapibjbjmmbaa", sum := "250ef34d67e39a208d34df46a8a7eb9ea0fb2f2a772676b8f3af2eb4ffe1e8fc", func := "loop.example/equerry/laws.FnExactLogSeen", spec := "fnExactLogSeen", unfollowed := true, recurses := true, apart := false, narrowed := true }
def FnExactLogSeenUptoSaid : Prop := fnExactLogSeenUptoRow.holds Try.pinned (OpenSpec.upto fnExactLogSeenSpec)

end Rows
end Go.Proofs.Ytppapibjbjmmbaa
