/-
  No cell of these rows narrows 'for every input' (looked for: loops, veiled, ifaces, maps, wideKeys, modest, calm, conditions, laid).
  DERIVED. THE GIVEN ROWS OF THIS SEAT. 12 by the template 'for every input the law returns true; each argument reads behind the call as it read before'; 0 by the template 'total and deterministic' (their statements: YtedbgdnhkcllaaaTotals.lean).
  GIVEN WITH THE SEED: the statements are not yours to turn. If you find one false, say at which input.
  Laid BY PROGRAM, IN A SANDBOX (cutbox-rows.mjs): the forced cells as the released guide's own fill.sh prints them over the translation 029e41f2ec9b41bb… (all of the seat's roots in one cut). By AI agents, Wed Nov 11 2026. No macro, syntax, notation, axiom, sorry.
-/
import Derived.Test.YtedbgdnhkcllaaaChecked
import GoSem.Claim
import GoSem.ClaimJoined
import GoSem.ClaimMapViews
import Derived.JoinedTies
import Derived.KernelRfl
namespace Go.Proofs.Ytedbgdnhkcllaaa
/- THE CELL 'sum', in the pinned program and in every row, IS THE sha256 OF THE DUMP (.gsa) THAT YtedbgdnhkcllaaaProg.lean LOADS. Nothing in Lean hashes anything: it is a label: what it is worth is what the hold of that sum in a sandbox is worth. -/
noncomputable def Try.pinned : Pinned := { name := "ytedbgdnhkcllaaa", sum := "029e41f2ec9b41bbb7f1c58132d33d818ee63c2f1f9ae01ed30d05bae0fb28a6", checked := Try.checked }
namespace Rows
def none {H : Type} : Left H := { results := [], args := [] }

/-- 'laws.FnExactChangeDo': WHATEVER THE INPUT: true; the input reads as it did. -/
def fnExactChangeDoSpec : ChangeSpec := { name := "fnExactChangeDo", fn := fun _ => fun
  | [d1, d2, d3] => { results := [.lit (.bool true)], args := [d1, d2, d3] }
  | _ => none }
def fnExactChangeDoRow : OpenClaim := { program := "ytedbgdnhkcllaaa", sum := "029e41f2ec9b41bbb7f1c58132d33d818ee63c2f1f9ae01ed30d05bae0fb28a6", func := "loop.example/equerry/laws.FnExactChangeDo", spec := "fnExactChangeDo", unfollowed := true, recurses := true, apart := false }
def FnExactChangeDoSaid : Prop := fnExactChangeDoRow.holds Try.pinned (OpenSpec.ofChange fnExactChangeDoSpec)

/-- ITS FALSE NEIGHBOUR: 'it returns false'. Refute it at one input. -/
def fnExactChangeDoWrong : ChangeSpec := { name := "fnExactChangeDo", fn := fun _ => fun
  | [d1, d2, d3] => { results := [.lit (.bool false)], args := [d1, d2, d3] }
  | _ => none }
def FnExactChangeDoWrongFalsely : Prop := fnExactChangeDoRow.holds Try.pinned (OpenSpec.ofChange fnExactChangeDoWrong)

/-- 'laws.FnChangeCut': WHATEVER THE INPUT: true; the input reads as it did. -/
def fnChangeCutSpec : ChangeSpec := { name := "fnChangeCut", fn := fun _ => fun
  | [d1, d2] => { results := [.lit (.bool true)], args := [d1, d2] }
  | _ => none }
def fnChangeCutRow : OpenClaim := { program := "ytedbgdnhkcllaaa", sum := "029e41f2ec9b41bbb7f1c58132d33d818ee63c2f1f9ae01ed30d05bae0fb28a6", func := "loop.example/equerry/laws.FnChangeCut", spec := "fnChangeCut", unfollowed := true, recurses := true, apart := false }
def FnChangeCutSaid : Prop := fnChangeCutRow.holds Try.pinned (OpenSpec.ofChange fnChangeCutSpec)

/-- ITS FALSE NEIGHBOUR: 'it returns false'. Refute it at one input. -/
def fnChangeCutWrong : ChangeSpec := { name := "fnChangeCut", fn := fun _ => fun
  | [d1, d2] => { results := [.lit (.bool false)], args := [d1, d2] }
  | _ => none }
def FnChangeCutWrongFalsely : Prop := fnChangeCutRow.holds Try.pinned (OpenSpec.ofChange fnChangeCutWrong)

/-- 'laws.FnChangeEmpty': WHATEVER THE INPUT: true; the input reads as it did. -/
def fnChangeEmptySpec : ChangeSpec := { name := "fnChangeEmpty", fn := fun _ => fun
  | [d] => { results := [.lit (.bool true)], args := [d] }
  | _ => none }
def fnChangeEmptyRow : OpenClaim := { program := "ytedbgdnhkcllaaa", sum := "029e41f2ec9b41bbb7f1c58132d33d818ee63c2f1f9ae01ed30d05bae0fb28a6", func := "loop.example/equerry/laws.FnChangeEmpty", spec := "fnChangeEmpty", unfollowed := true, recurses := true, apart := false }
def FnChangeEmptySaid : Prop := fnChangeEmptyRow.holds Try.pinned (OpenSpec.ofChange fnChangeEmptySpec)

/-- ITS FALSE NEIGHBOUR: 'it returns false'. Refute it at one input. -/
def fnChangeEmptyWrong : ChangeSpec := { name := "fnChangeEmpty", fn := fun _ => fun
  | [d] => { results := [.lit (.bool false)], args := [d] }
  | _ => none }
def FnChangeEmptyWrongFalsely : Prop := fnChangeEmptyRow.holds Try.pinned (OpenSpec.ofChange fnChangeEmptyWrong)

/-- 'laws.FnChangeNeed': WHATEVER THE INPUT: true; the input reads as it did. -/
def fnChangeNeedSpec : ChangeSpec := { name := "fnChangeNeed", fn := fun _ => fun
  | [d1, d2] => { results := [.lit (.bool true)], args := [d1, d2] }
  | _ => none }
def fnChangeNeedRow : OpenClaim := { program := "ytedbgdnhkcllaaa", sum := "029e41f2ec9b41bbb7f1c58132d33d818ee63c2f1f9ae01ed30d05bae0fb28a6", func := "loop.example/equerry/laws.FnChangeNeed", spec := "fnChangeNeed", unfollowed := true, recurses := true, apart := false }
def FnChangeNeedSaid : Prop := fnChangeNeedRow.holds Try.pinned (OpenSpec.ofChange fnChangeNeedSpec)

/-- ITS FALSE NEIGHBOUR: 'it returns false'. Refute it at one input. -/
def fnChangeNeedWrong : ChangeSpec := { name := "fnChangeNeed", fn := fun _ => fun
  | [d1, d2] => { results := [.lit (.bool false)], args := [d1, d2] }
  | _ => none }
def FnChangeNeedWrongFalsely : Prop := fnChangeNeedRow.holds Try.pinned (OpenSpec.ofChange fnChangeNeedWrong)

/-- 'laws.FnChangeRegs': WHATEVER THE INPUT: true; the input reads as it did. -/
def fnChangeRegsSpec : ChangeSpec := { name := "fnChangeRegs", fn := fun _ => fun
  | [d] => { results := [.lit (.bool true)], args := [d] }
  | _ => none }
def fnChangeRegsRow : OpenClaim := { program := "ytedbgdnhkcllaaa", sum := "029e41f2ec9b41bbb7f1c58132d33d818ee63c2f1f9ae01ed30d05bae0fb28a6", func := "loop.example/equerry/laws.FnChangeRegs", spec := "fnChangeRegs", unfollowed := true, recurses := true, apart := false }
def FnChangeRegsSaid : Prop := fnChangeRegsRow.holds Try.pinned (OpenSpec.ofChange fnChangeRegsSpec)

/-- ITS FALSE NEIGHBOUR: 'it returns false'. Refute it at one input. -/
def fnChangeRegsWrong : ChangeSpec := { name := "fnChangeRegs", fn := fun _ => fun
  | [d] => { results := [.lit (.bool false)], args := [d] }
  | _ => none }
def FnChangeRegsWrongFalsely : Prop := fnChangeRegsRow.holds Try.pinned (OpenSpec.ofChange fnChangeRegsWrong)

/-- 'laws.FnChangeDo': WHATEVER THE INPUT: true; the input reads as it did. -/
def fnChangeDoSpec : ChangeSpec := { name := "fnChangeDo", fn := fun _ => fun
  | [d] => { results := [.lit (.bool true)], args := [d] }
  | _ => none }
def fnChangeDoRow : OpenClaim := { program := "ytedbgdnhkcllaaa", sum := "029e41f2ec9b41bbb7f1c58132d33d818ee63c2f1f9ae01ed30d05bae0fb28a6", func := "loop.example/equerry/laws.FnChangeDo", spec := "fnChangeDo", inPlace := ["slices.overlaps[int]"], unfollowed := true, recurses := true, apart := false }
def FnChangeDoSaid : Prop := fnChangeDoRow.holds Try.pinned (OpenSpec.ofChange fnChangeDoSpec)

/-- ITS FALSE NEIGHBOUR: 'it returns false'. Refute it at one input. -/
def fnChangeDoWrong : ChangeSpec := { name := "fnChangeDo", fn := fun _ => fun
  | [d] => { results := [.lit (.bool false)], args := [d] }
  | _ => none }
def FnChangeDoWrongFalsely : Prop := fnChangeDoRow.holds Try.pinned (OpenSpec.ofChange fnChangeDoWrong)

/-- 'laws.FnChangeReads': WHATEVER THE INPUT: true; the input reads as it did. -/
def fnChangeReadsSpec : ChangeSpec := { name := "fnChangeReads", fn := fun _ => fun
  | [d] => { results := [.lit (.bool true)], args := [d] }
  | _ => none }
def fnChangeReadsRow : OpenClaim := { program := "ytedbgdnhkcllaaa", sum := "029e41f2ec9b41bbb7f1c58132d33d818ee63c2f1f9ae01ed30d05bae0fb28a6", func := "loop.example/equerry/laws.FnChangeReads", spec := "fnChangeReads", inPlace := ["slices.overlaps[int]"], unfollowed := true, recurses := true, apart := false }
def FnChangeReadsSaid : Prop := fnChangeReadsRow.holds Try.pinned (OpenSpec.ofChange fnChangeReadsSpec)

/-- ITS FALSE NEIGHBOUR: 'it returns false'. Refute it at one input. -/
def fnChangeReadsWrong : ChangeSpec := { name := "fnChangeReads", fn := fun _ => fun
  | [d] => { results := [.lit (.bool false)], args := [d] }
  | _ => none }
def FnChangeReadsWrongFalsely : Prop := fnChangeReadsRow.holds Try.pinned (OpenSpec.ofChange fnChangeReadsWrong)

/-- 'laws.FnChangeSetsCut': WHATEVER THE INPUT: true; the input reads as it did. -/
def fnChangeSetsCutSpec : ChangeSpec := { name := "fnChangeSetsCut", fn := fun _ => fun
  | [d1, d2] => { results := [.lit (.bool true)], args := [d1, d2] }
  | _ => none }
def fnChangeSetsCutRow : OpenClaim := { program := "ytedbgdnhkcllaaa", sum := "029e41f2ec9b41bbb7f1c58132d33d818ee63c2f1f9ae01ed30d05bae0fb28a6", func := "loop.example/equerry/laws.FnChangeSetsCut", spec := "fnChangeSetsCut", inPlace := ["slices.overlaps[int]"], apart := false }
def FnChangeSetsCutSaid : Prop := fnChangeSetsCutRow.holds Try.pinned (OpenSpec.ofChange fnChangeSetsCutSpec)

/-- ITS FALSE NEIGHBOUR: 'it returns false'. Refute it at one input. -/
def fnChangeSetsCutWrong : ChangeSpec := { name := "fnChangeSetsCut", fn := fun _ => fun
  | [d1, d2] => { results := [.lit (.bool false)], args := [d1, d2] }
  | _ => none }
def FnChangeSetsCutWrongFalsely : Prop := fnChangeSetsCutRow.holds Try.pinned (OpenSpec.ofChange fnChangeSetsCutWrong)

/-- 'laws.FnChangeSets': WHATEVER THE INPUT: true; the input reads as it did. -/
def fnChangeSetsSpec : ChangeSpec := { name := "fnChangeSets", fn := fun _ => fun
  | [d] => { results := [.lit (.bool true)], args := [d] }
  | _ => none }
def fnChangeSetsRow : OpenClaim := { program := "ytedbgdnhkcllaaa", sum := "029e41f2ec9b41bbb7f1c58132d33d818ee63c2f1f9ae01ed30d05bae0fb28a6", func := "loop.example/equerry/laws.FnChangeSets", spec := "fnChangeSets", inPlace := ["slices.overlaps[int]"], apart := false }
def FnChangeSetsSaid : Prop := fnChangeSetsRow.holds Try.pinned (OpenSpec.ofChange fnChangeSetsSpec)

/-- ITS FALSE NEIGHBOUR: 'it returns false'. Refute it at one input. -/
def fnChangeSetsWrong : ChangeSpec := { name := "fnChangeSets", fn := fun _ => fun
  | [d] => { results := [.lit (.bool false)], args := [d] }
  | _ => none }
def FnChangeSetsWrongFalsely : Prop := fnChangeSetsRow.holds Try.pinned (OpenSpec.ofChange fnChangeSetsWrong)

/-- 'laws.FnProgMore': WHATEVER THE INPUT: true; the input reads as it did. -/
def fnProgMoreSpec : ChangeSpec := { name := "fnProgMore", fn := fun _ => fun
  | [d] => { results := [.lit (.bool true)], args := [d] }
  | _ => none }
def fnProgMoreRow : OpenClaim := { program := "ytedbgdnhkcllaaa", sum := "029e41f2ec9b41bbb7f1c58132d33d818ee63c2f1f9ae01ed30d05bae0fb28a6", func := "loop.example/equerry/laws.FnProgMore", spec := "fnProgMore", recurses := true, apart := false }
def FnProgMoreSaid : Prop := fnProgMoreRow.holds Try.pinned (OpenSpec.ofChange fnProgMoreSpec)

/-- ITS FALSE NEIGHBOUR: 'it returns false'. Refute it at one input. -/
def fnProgMoreWrong : ChangeSpec := { name := "fnProgMore", fn := fun _ => fun
  | [d] => { results := [.lit (.bool false)], args := [d] }
  | _ => none }
def FnProgMoreWrongFalsely : Prop := fnProgMoreRow.holds Try.pinned (OpenSpec.ofChange fnProgMoreWrong)

/-- 'laws.FnProgKids': WHATEVER THE INPUT: true; the input reads as it did. -/
def fnProgKidsSpec : ChangeSpec := { name := "fnProgKids", fn := fun _ => fun
  | [d] => { results := [.lit (.bool true)], args := [d] }
  | _ => none }
def fnProgKidsRow : OpenClaim := { program := "ytedbgdnhkcllaaa", sum := "029e41f2ec9b41bbb7f1c58132d33d818ee63c2f1f9ae01ed30d05bae0fb28a6", func := "loop.example/equerry/laws.FnProgKids", spec := "fnProgKids", recurses := true, apart := false }
def FnProgKidsSaid : Prop := fnProgKidsRow.holds Try.pinned (OpenSpec.ofChange fnProgKidsSpec)

/-- ITS FALSE NEIGHBOUR: 'it returns false'. Refute it at one input. -/
def fnProgKidsWrong : ChangeSpec := { name := "fnProgKids", fn := fun _ => fun
  | [d] => { results := [.lit (.bool false)], args := [d] }
  | _ => none }
def FnProgKidsWrongFalsely : Prop := fnProgKidsRow.holds Try.pinned (OpenSpec.ofChange fnProgKidsWrong)

/-- 'laws.FnProgTree': WHATEVER THE INPUT: true; the input reads as it did. -/
def fnProgTreeSpec : ChangeSpec := { name := "fnProgTree", fn := fun _ => fun
  | [d] => { results := [.lit (.bool true)], args := [d] }
  | _ => none }
def fnProgTreeRow : OpenClaim := { program := "ytedbgdnhkcllaaa", sum := "029e41f2ec9b41bbb7f1c58132d33d818ee63c2f1f9ae01ed30d05bae0fb28a6", func := "loop.example/equerry/laws.FnProgTree", spec := "fnProgTree", recurses := true, apart := false }
def FnProgTreeSaid : Prop := fnProgTreeRow.holds Try.pinned (OpenSpec.ofChange fnProgTreeSpec)

/-- ITS FALSE NEIGHBOUR: 'it returns false'. Refute it at one input. -/
def fnProgTreeWrong : ChangeSpec := { name := "fnProgTree", fn := fun _ => fun
  | [d] => { results := [.lit (.bool false)], args := [d] }
  | _ => none }
def FnProgTreeWrongFalsely : Prop := fnProgTreeRow.holds Try.pinned (OpenSpec.ofChange fnProgTreeWrong)

/- THE SECOND FORM. 'bulk': how many values and letters a reading holds, each counted each time it is reached (what is shared counts as often as it is met; a slice's spare places count too). A statement '..UptoSaid' is the law's where the arguments, and the package variables that the reading takes, are together of bulk at most 1048576: NARROWER than '..Said'. Prove '..Said' where nothing that the law and all that it calls make is longer than what came in: it says more and counts as full. Else prove '..UptoSaid'. A law counts once. -/
mutual
def uptoBulk {H : Type} : DataW H → Nat
  | .lit (.string bytes) => bytes.length + 1
  | .lit _ => 1
  | .nil => 1
  | .ptr d => uptoBulk d + 1
  | .slice elems spare => uptoBulkAll elems + uptoBulkAll spare + 1
  | .agg parts => uptoBulkAll parts + 1
  | .iface _ d => uptoBulk d + 1
  | .map entries => uptoBulkEntries entries + 1
  | .held _ => 1
def uptoBulkAll {H : Type} : List (DataW H) → Nat
  | [] => 0
  | d :: r => uptoBulk d + uptoBulkAll r
def uptoBulkEntries {H : Type} : List (Lit × DataW H) → Nat
  | [] => 0
  | x :: r => uptoBulkEntry x + uptoBulkEntries r
def uptoBulkEntry {H : Type} : Lit × DataW H → Nat
  | (.string bytes, d) => bytes.length + uptoBulk d + 1
  | (_, d) => uptoBulk d + 1
 end
def uptoSmall : (H : Type) → List (DataW H) → Bool := fun _ ds => decide (uptoBulkAll ds ≤ 1048576)
def OpenSpec.upto (s : _root_.Go.ChangeSpec) : _root_.Go.OpenSpec := { _root_.Go.OpenSpec.ofChange s with cond := some uptoSmall }

/-- 'laws.FnExactChangeDo', WHERE WHAT IT READS IS OF BULK AT MOST 1048576: true; the input reads as it did. -/
def fnExactChangeDoUptoRow : OpenClaim := { program := "ytedbgdnhkcllaaa", sum := "029e41f2ec9b41bbb7f1c58132d33d818ee63c2f1f9ae01ed30d05bae0fb28a6", func := "loop.example/equerry/laws.FnExactChangeDo", spec := "fnExactChangeDo", unfollowed := true, recurses := true, apart := false, narrowed := true }
def FnExactChangeDoUptoSaid : Prop := fnExactChangeDoUptoRow.holds Try.pinned (OpenSpec.upto fnExactChangeDoSpec)

/-- 'laws.FnChangeCut', WHERE WHAT IT READS IS OF BULK AT MOST 1048576: true; the input reads as it did. -/
def fnChangeCutUptoRow : OpenClaim := { program := "ytedbgdnhkcllaaa", sum := "029e41f2ec9b41bbb7f1c58132d33d818ee63c2f1f9ae01ed30d05bae0fb28a6", func := "loop.example/equerry/laws.FnChangeCut", spec := "fnChangeCut", unfollowed := true, recurses := true, apart := false, narrowed := true }
def FnChangeCutUptoSaid : Prop := fnChangeCutUptoRow.holds Try.pinned (OpenSpec.upto fnChangeCutSpec)

/-- 'laws.FnChangeEmpty', WHERE WHAT IT READS IS OF BULK AT MOST 1048576: true; the input reads as it did. -/
def fnChangeEmptyUptoRow : OpenClaim := { program := "ytedbgdnhkcllaaa", sum := "029e41f2ec9b41bbb7f1c58132d33d818ee63c2f1f9ae01ed30d05bae0fb28a6", func := "loop.example/equerry/laws.FnChangeEmpty", spec := "fnChangeEmpty", unfollowed := true, recurses := true, apart := false, narrowed := true }
def FnChangeEmptyUptoSaid : Prop := fnChangeEmptyUptoRow.holds Try.pinned (OpenSpec.upto fnChangeEmptySpec)

/-- 'laws.FnChangeNeed', WHERE WHAT IT READS IS OF BULK AT MOST 1048576: true; the input reads as it did. -/
def fnChangeNeedUptoRow : OpenClaim := { program := "ytedbgdnhkcllaaa", sum := "029e41f2ec9b41bbb7f1c58132d33d818ee63c2f1f9ae01ed30d05bae0fb28a6", func := "loop.example/equerry/laws.FnChangeNeed", spec := "fnChangeNeed", unfollowed := true, recurses := true, apart := false, narrowed := true }
def FnChangeNeedUptoSaid : Prop := fnChangeNeedUptoRow.holds Try.pinned (OpenSpec.upto fnChangeNeedSpec)

/-- 'laws.FnChangeRegs', WHERE WHAT IT READS IS OF BULK AT MOST 1048576: true; the input reads as it did. -/
def fnChangeRegsUptoRow : OpenClaim := { program := "ytedbgdnhkcllaaa", sum := "029e41f2ec9b41bbb7f1c58132d33d818ee63c2f1f9ae01ed30d05bae0fb28a6", func := "loop.example/equerry/laws.FnChangeRegs", spec := "fnChangeRegs", unfollowed := true, recurses := true, apart := false, narrowed := true }
def FnChangeRegsUptoSaid : Prop := fnChangeRegsUptoRow.holds Try.pinned (OpenSpec.upto fnChangeRegsSpec)

/-- 'laws.FnChangeDo', WHERE WHAT IT READS IS OF BULK AT MOST 1048576: true; the input reads as it did. -/
def fnChangeDoUptoRow : OpenClaim := { program := "ytedbgdnhkcllaaa", sum := "029e41f2ec9b41bbb7f1c58132d33d818ee63c2f1f9ae01ed30d05bae0fb28a6", func := "loop.example/equerry/laws.FnChangeDo", spec := "fnChangeDo", inPlace := ["slices.overlaps[int]"], unfollowed := true, recurses := true, apart := false, narrowed := true }
def FnChangeDoUptoSaid : Prop := fnChangeDoUptoRow.holds Try.pinned (OpenSpec.upto fnChangeDoSpec)

/-- 'laws.FnChangeReads', WHERE WHAT IT READS IS OF BULK AT MOST 1048576: true; the input reads as it did. -/
def fnChangeReadsUptoRow : OpenClaim := { program := "ytedbgdnhkcllaaa", sum := "029e41f2ec9b41bbb7f1c58132d33d818ee63c2f1f9ae01ed30d05bae0fb28a6", func := "loop.example/equerry/laws.FnChangeReads", spec := "fnChangeReads", inPlace := ["slices.overlaps[int]"], unfollowed := true, recurses := true, apart := false, narrowed := true }
def FnChangeReadsUptoSaid : Prop := fnChangeReadsUptoRow.holds Try.pinned (OpenSpec.upto fnChangeReadsSpec)

/-- 'laws.FnChangeSetsCut', WHERE WHAT IT READS IS OF BULK AT MOST 1048576: true; the input reads as it did. -/
def fnChangeSetsCutUptoRow : OpenClaim := { program := "ytedbgdnhkcllaaa", sum := "029e41f2ec9b41bbb7f1c58132d33d818ee63c2f1f9ae01ed30d05bae0fb28a6", func := "loop.example/equerry/laws.FnChangeSetsCut", spec := "fnChangeSetsCut", inPlace := ["slices.overlaps[int]"], apart := false, narrowed := true }
def FnChangeSetsCutUptoSaid : Prop := fnChangeSetsCutUptoRow.holds Try.pinned (OpenSpec.upto fnChangeSetsCutSpec)

/-- 'laws.FnChangeSets', WHERE WHAT IT READS IS OF BULK AT MOST 1048576: true; the input reads as it did. -/
def fnChangeSetsUptoRow : OpenClaim := { program := "ytedbgdnhkcllaaa", sum := "029e41f2ec9b41bbb7f1c58132d33d818ee63c2f1f9ae01ed30d05bae0fb28a6", func := "loop.example/equerry/laws.FnChangeSets", spec := "fnChangeSets", inPlace := ["slices.overlaps[int]"], apart := false, narrowed := true }
def FnChangeSetsUptoSaid : Prop := fnChangeSetsUptoRow.holds Try.pinned (OpenSpec.upto fnChangeSetsSpec)

/-- 'laws.FnProgMore', WHERE WHAT IT READS IS OF BULK AT MOST 1048576: true; the input reads as it did. -/
def fnProgMoreUptoRow : OpenClaim := { program := "ytedbgdnhkcllaaa", sum := "029e41f2ec9b41bbb7f1c58132d33d818ee63c2f1f9ae01ed30d05bae0fb28a6", func := "loop.example/equerry/laws.FnProgMore", spec := "fnProgMore", recurses := true, apart := false, narrowed := true }
def FnProgMoreUptoSaid : Prop := fnProgMoreUptoRow.holds Try.pinned (OpenSpec.upto fnProgMoreSpec)

/-- 'laws.FnProgKids', WHERE WHAT IT READS IS OF BULK AT MOST 1048576: true; the input reads as it did. -/
def fnProgKidsUptoRow : OpenClaim := { program := "ytedbgdnhkcllaaa", sum := "029e41f2ec9b41bbb7f1c58132d33d818ee63c2f1f9ae01ed30d05bae0fb28a6", func := "loop.example/equerry/laws.FnProgKids", spec := "fnProgKids", recurses := true, apart := false, narrowed := true }
def FnProgKidsUptoSaid : Prop := fnProgKidsUptoRow.holds Try.pinned (OpenSpec.upto fnProgKidsSpec)

/-- 'laws.FnProgTree', WHERE WHAT IT READS IS OF BULK AT MOST 1048576: true; the input reads as it did. -/
def fnProgTreeUptoRow : OpenClaim := { program := "ytedbgdnhkcllaaa", sum := "029e41f2ec9b41bbb7f1c58132d33d818ee63c2f1f9ae01ed30d05bae0fb28a6", func := "loop.example/equerry/laws.FnProgTree", spec := "fnProgTree", recurses := true, apart := false, narrowed := true }
def FnProgTreeUptoSaid : Prop := fnProgTreeUptoRow.holds Try.pinned (OpenSpec.upto fnProgTreeSpec)

end Rows
end Go.Proofs.Ytedbgdnhkcllaaa
