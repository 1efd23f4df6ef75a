/-
  DERIVED. GIVEN WITH THE SEED: THE CARDS: each row of YtemlifeamdpjeaaGreatDoorRows.lean that lists a variable, with what it lists TIED to the program's text (the seventh form; the later family's looks); each row that meets fmt, with fmt's text TOLD by the authors' own Lean function (tested against real Go, not proved from fmt's source: count such statements apart). THE CARD IS WHAT COUNTS. Prove the row's statement (the work); the ties are given (YtemlifeamdpjeaaGreatDoorTie.lean); close each card by the builder's one call (the guide's Derived/Test/ToyasCard.lean, 'card_holds'). Laid BY PROGRAM, IN A SANDBOX (cutbox-door.mjs). By AI agents, Wed Nov 11 2026. No macro, syntax, notation, axiom, sorry.
-/
import Derived.Test.YtemlifeamdpjeaaGreatDoorRows
import GoSem.ClaimSeven
namespace Go.Proofs.YtemlifeamdpjeaaGreatDoor
namespace Rows

/-- THE TIED CARD OF 'dendronlaw16.LinearValues'. -/
def linearValuesCard : Claim7 := { stood := { row := linearValuesRow, standIns := [], harness := (true, "f0c60fff83e5494d541e125ac528b9855343ae23f5da3404af54b48cd749ffb5"), looks := false }, kinds := [], alts := [], laidByText := true, laidKinds := [.data], laidTests := true, laidLooks := .later }
def LinearValuesCardSaid : Prop := Claim7.holds Tryz.pinned (.plain (OpenSpec.ofChange linearValuesSpec)) linearValuesCard

/-- THE SECOND FORM's CARD OF 'dendronlaw16.LinearValues'. -/
def linearValuesUptoCard : Claim7 := { stood := { row := linearValuesUptoRow, standIns := [], harness := (true, "f0c60fff83e5494d541e125ac528b9855343ae23f5da3404af54b48cd749ffb5"), looks := false }, kinds := [], alts := [], laidByText := true, laidKinds := [.data], laidTests := true, laidLooks := .later }
def LinearValuesUptoCardSaid : Prop := Claim7.holds Tryz.pinned (.plain (OpenSpec.upto linearValuesSpec)) linearValuesUptoCard
end Rows
end Go.Proofs.YtemlifeamdpjeaaGreatDoor
