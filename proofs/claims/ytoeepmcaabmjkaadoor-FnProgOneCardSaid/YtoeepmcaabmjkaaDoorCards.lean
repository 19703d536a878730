/-
  DERIVED. GIVEN WITH THE SEED: THE CARDS: each row of YtoeepmcaabmjkaaDoorRows.lean that lists a variable, with what it lists TIED to the program's text (the seventh form; the later family's looks); each row that meets fmt, with fmt's text TOLD by the authors' own Lean function (tested against real Go, not proved from fmt's source: count such statements apart). THE CARD IS WHAT COUNTS. Prove the row's statement (the work); the ties are given (YtoeepmcaabmjkaaDoorTie.lean); close each card by the builder's one call (the guide's Derived/Test/ToyasCard.lean, 'card_holds'). Laid BY PROGRAM, IN A SANDBOX (cutbox-door.mjs). By AI agents, Wed Nov 11 2026. No macro, syntax, notation, axiom, sorry.
-/
import Derived.Test.YtoeepmcaabmjkaaDoorRows
import GoSem.ClaimSeven
namespace Go.Proofs.YtoeepmcaabmjkaaDoor
namespace Rows

/-- THE TIED CARD OF 'laws.FnExactProgText'. -/
def fnExactProgTextCard : Claim7 := { stood := { row := fnExactProgTextRow, standIns := [], harness := (true, "d8dce558453d1f893681ac06a98c91def65c0140f95993de2fbe8163f5329fdd"), looks := true }, kinds := [], alts := [], laidByText := true, laidKinds := [.data, .data, .data], laidTests := true, laidLooks := .later }
def FnExactProgTextCardSaid : Prop := Claim7.holds Tryd.pinned (.plain (OpenSpec.ofChange fnExactProgTextSpec)) fnExactProgTextCard

/-- THE TIED CARD OF 'laws.FnProgOne'. -/
def fnProgOneCard : Claim7 := { stood := { row := fnProgOneRow, standIns := [], harness := (true, "d8dce558453d1f893681ac06a98c91def65c0140f95993de2fbe8163f5329fdd"), looks := true }, kinds := [], alts := [], laidByText := true, laidKinds := [.data, .data, .data], laidTests := true, laidLooks := .later }
def FnProgOneCardSaid : Prop := Claim7.holds Tryd.pinned (.plain (OpenSpec.ofChange fnProgOneSpec)) fnProgOneCard

/-- THE TIED CARD OF 'laws.FnExactLogText'. -/
def fnExactLogTextCard : Claim7 := { stood := { row := fnExactLogTextRow, standIns := [], harness := (true, "d8dce558453d1f893681ac06a98c91def65c0140f95993de2fbe8163f5329fdd"), looks := true }, kinds := [], alts := [], laidByText := true, laidKinds := [.data, .data, .data], laidTests := true, laidLooks := .later }
def FnExactLogTextCardSaid : Prop := Claim7.holds Tryd.pinned (.plain (OpenSpec.ofChange fnExactLogTextSpec)) fnExactLogTextCard

/-- THE SECOND FORM's CARD OF 'laws.FnExactProgText'. -/
def fnExactProgTextUptoCard : Claim7 := { stood := { row := fnExactProgTextUptoRow, standIns := [], harness := (true, "d8dce558453d1f893681ac06a98c91def65c0140f95993de2fbe8163f5329fdd"), looks := true }, kinds := [], alts := [], laidByText := true, laidKinds := [.data, .data, .data], laidTests := true, laidLooks := .later }
def FnExactProgTextUptoCardSaid : Prop := Claim7.holds Tryd.pinned (.plain (OpenSpec.upto fnExactProgTextSpec)) fnExactProgTextUptoCard

/-- THE SECOND FORM's CARD OF 'laws.FnProgOne'. -/
def fnProgOneUptoCard : Claim7 := { stood := { row := fnProgOneUptoRow, standIns := [], harness := (true, "d8dce558453d1f893681ac06a98c91def65c0140f95993de2fbe8163f5329fdd"), looks := true }, kinds := [], alts := [], laidByText := true, laidKinds := [.data, .data, .data], laidTests := true, laidLooks := .later }
def FnProgOneUptoCardSaid : Prop := Claim7.holds Tryd.pinned (.plain (OpenSpec.upto fnProgOneSpec)) fnProgOneUptoCard

/-- THE SECOND FORM's CARD OF 'laws.FnExactLogText'. -/
def fnExactLogTextUptoCard : Claim7 := { stood := { row := fnExactLogTextUptoRow, standIns := [], harness := (true, "d8dce558453d1f893681ac06a98c91def65c0140f95993de2fbe8163f5329fdd"), looks := true }, kinds := [], alts := [], laidByText := true, laidKinds := [.data, .data, .data], laidTests := true, laidLooks := .later }
def FnExactLogTextUptoCardSaid : Prop := Claim7.holds Tryd.pinned (.plain (OpenSpec.upto fnExactLogTextSpec)) fnExactLogTextUptoCard
end Rows
end Go.Proofs.YtoeepmcaabmjkaaDoor
