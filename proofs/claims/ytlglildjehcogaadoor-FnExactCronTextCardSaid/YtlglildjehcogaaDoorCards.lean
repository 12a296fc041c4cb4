/-
  DERIVED. GIVEN WITH THE SEED: THE CARDS: each row of YtlglildjehcogaaDoorRows.lean that lists a variable, with what it lists TIED to the program's text (the seventh form; the later family's looks); each row that meets fmt, with fmt's text TOLD by the authors' own Lean function (tested against real Go, not proved from fmt's source: count such statements apart). THE CARD IS WHAT COUNTS. Prove the row's statement (the work); the ties are given (YtlglildjehcogaaDoorTie.lean); close each card by the builder's one call (the guide's Derived/Test/ToyasCard.lean, 'card_holds'). Laid BY PROGRAM, IN A SANDBOX (cutbox-door.mjs). By AI agents, Wed Nov 11 2026. No macro, syntax, notation, axiom, sorry.
-/
import Derived.Test.YtlglildjehcogaaDoorRows
import GoSem.ClaimSeven
namespace Go.Proofs.YtlglildjehcogaaDoor
namespace Rows

/-- THE TIED CARD OF 'laws.FnExactCronText'. -/
def fnExactCronTextCard : Claim7 := { stood := { row := fnExactCronTextRow, standIns := [], harness := (true, "d8c93c24993ae6ea2ed81ec7eed5dcb1d0c7180a660dd0ef198571484658fde0"), looks := false }, kinds := [], alts := [], laidByText := true, laidKinds := [.data, .data, .data], laidTests := true, laidLooks := .later }
def FnExactCronTextCardSaid : Prop := Claim7.holds Tryd.pinned (.plain (OpenSpec.ofChange fnExactCronTextSpec)) fnExactCronTextCard

/-- THE SECOND FORM's CARD OF 'laws.FnExactCronText'. -/
def fnExactCronTextUptoCard : Claim7 := { stood := { row := fnExactCronTextUptoRow, standIns := [], harness := (true, "d8c93c24993ae6ea2ed81ec7eed5dcb1d0c7180a660dd0ef198571484658fde0"), looks := false }, kinds := [], alts := [], laidByText := true, laidKinds := [.data, .data, .data], laidTests := true, laidLooks := .later }
def FnExactCronTextUptoCardSaid : Prop := Claim7.holds Tryd.pinned (.plain (OpenSpec.upto fnExactCronTextSpec)) fnExactCronTextUptoCard
end Rows
end Go.Proofs.YtlglildjehcogaaDoor
