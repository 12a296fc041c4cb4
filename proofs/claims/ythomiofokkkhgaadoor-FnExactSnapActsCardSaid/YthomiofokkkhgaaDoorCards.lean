/-
  DERIVED. GIVEN WITH THE SEED: THE CARDS: each row of YthomiofokkkhgaaDoorRows.lean that lists a variable, with what it lists TIED to the program's text (the seventh form; the later family's looks); each row that meets fmt, with fmt's text TOLD by the authors' own Lean function (tested against real Go, not proved from fmt's source: count such statements apart). THE CARD IS WHAT COUNTS. Prove the row's statement (the work); the ties are given (YthomiofokkkhgaaDoorTie.lean); close each card by the builder's one call (the guide's Derived/Test/ToyasCard.lean, 'card_holds'). Laid BY PROGRAM, IN A SANDBOX (cutbox-door.mjs). By AI agents, Wed Nov 11 2026. No macro, syntax, notation, axiom, sorry.
-/
import Derived.Test.YthomiofokkkhgaaDoorRows
import GoSem.ClaimSeven
namespace Go.Proofs.YthomiofokkkhgaaDoor
namespace Rows

/-- THE TIED CARD OF 'laws.FnExactSnapActs'. -/
def fnExactSnapActsCard : Claim7 := { stood := { row := fnExactSnapActsRow, standIns := [], harness := (true, "d5c79561a3efd67621079c98f09612e1dce33bcedf9ad07fa44c11f972801bf7"), looks := false }, kinds := [], alts := [], laidByText := true, laidKinds := [.data, .data, .data], laidTests := true, laidLooks := .later }
def FnExactSnapActsCardSaid : Prop := Claim7.holds Tryd.pinned (.plain (OpenSpec.ofChange fnExactSnapActsSpec)) fnExactSnapActsCard

/-- THE TIED CARD OF 'laws.FnExactParseCron'. -/
def fnExactParseCronCard : Claim7 := { stood := { row := fnExactParseCronRow, standIns := [], harness := (true, "d5c79561a3efd67621079c98f09612e1dce33bcedf9ad07fa44c11f972801bf7"), looks := false }, kinds := [], alts := [], laidByText := true, laidKinds := [.data, .data, .data, .data, .pinned], laidTests := true, laidLooks := .later }
def FnExactParseCronCardSaid : Prop := Claim7.holds Tryd.pinned (.plain (OpenSpec.ofChange fnExactParseCronSpec)) fnExactParseCronCard

/-- THE SECOND FORM's CARD OF 'laws.FnExactSnapActs'. -/
def fnExactSnapActsUptoCard : Claim7 := { stood := { row := fnExactSnapActsUptoRow, standIns := [], harness := (true, "d5c79561a3efd67621079c98f09612e1dce33bcedf9ad07fa44c11f972801bf7"), looks := false }, kinds := [], alts := [], laidByText := true, laidKinds := [.data, .data, .data], laidTests := true, laidLooks := .later }
def FnExactSnapActsUptoCardSaid : Prop := Claim7.holds Tryd.pinned (.plain (OpenSpec.upto fnExactSnapActsSpec)) fnExactSnapActsUptoCard

/-- THE SECOND FORM's CARD OF 'laws.FnExactParseCron'. -/
def fnExactParseCronUptoCard : Claim7 := { stood := { row := fnExactParseCronUptoRow, standIns := [], harness := (true, "d5c79561a3efd67621079c98f09612e1dce33bcedf9ad07fa44c11f972801bf7"), looks := false }, kinds := [], alts := [], laidByText := true, laidKinds := [.data, .data, .data, .data, .pinned], laidTests := true, laidLooks := .later }
def FnExactParseCronUptoCardSaid : Prop := Claim7.holds Tryd.pinned (.plain (OpenSpec.upto fnExactParseCronSpec)) fnExactParseCronUptoCard
end Rows
end Go.Proofs.YthomiofokkkhgaaDoor
