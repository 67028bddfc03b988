/-
  DERIVED. GIVEN WITH THE SEED: THE CARDS: each row of YtlafegjmmbkkpaaDoorRows.lean that lists a variable, with what it lists TIED to the program's text (the seventh form; the later family's looks); each row that meets fmt, with fmt's text TOLD by the authors' own Lean function (tested against real Go, not proved from fmt's source: count such statements apart). THE CARD IS WHAT COUNTS. Prove the row's statement (the work); the ties are given (YtlafegjmmbkkpaaDoorTie.lean); close each card by the builder's one call (the guide's Derived/Test/ToyasCard.lean, 'card_holds'). Laid BY PROGRAM, IN A SANDBOX (cutbox-door.mjs). By AI agents, Wed Nov 11 2026. No macro, syntax, notation, axiom, sorry.
-/
import Derived.Test.YtlafegjmmbkkpaaDoorRows
import GoSem.ClaimSeven
namespace Go.Proofs.YtlafegjmmbkkpaaDoor
namespace Rows

/-- THE TIED CARD OF 'laws.FnExactProgramCells'. -/
def fnExactProgramCellsCard : Claim7 := { stood := { row := fnExactProgramCellsRow, standIns := [], harness := (true, "1df85a2b7b9009e83d9fc6e9c394b5a753df450ab80ec8a32855cd7e6e3feafc"), looks := false }, kinds := [], alts := [], laidByText := true, laidKinds := [.data, .pinned], laidTests := true, laidLooks := .later }
def FnExactProgramCellsCardSaid : Prop := Claim7.holds Tryd.pinned (.plain (OpenSpec.ofChange fnExactProgramCellsSpec)) fnExactProgramCellsCard

/-- THE SECOND FORM's CARD OF 'laws.FnExactProgramCells'. -/
def fnExactProgramCellsUptoCard : Claim7 := { stood := { row := fnExactProgramCellsUptoRow, standIns := [], harness := (true, "1df85a2b7b9009e83d9fc6e9c394b5a753df450ab80ec8a32855cd7e6e3feafc"), looks := false }, kinds := [], alts := [], laidByText := true, laidKinds := [.data, .pinned], laidTests := true, laidLooks := .later }
def FnExactProgramCellsUptoCardSaid : Prop := Claim7.holds Tryd.pinned (.plain (OpenSpec.upto fnExactProgramCellsSpec)) fnExactProgramCellsUptoCard
end Rows
end Go.Proofs.YtlafegjmmbkkpaaDoor
