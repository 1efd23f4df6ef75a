/-
  DERIVED. GIVEN WITH THE SEED: THE CARDS: each row of YtjjgbpeapgmhoaaGreatDoorRows.lean that lists a variable, with what it lists TIED to the program's text (the seventh form; the later family's looks); each row that meets fmt, with fmt's text TOLD by the authors' own Lean function (tested against real Go, not proved from fmt's source: count such statements apart). THE CARD IS WHAT COUNTS. Prove the row's statement (the work); the ties are given (YtjjgbpeapgmhoaaGreatDoorTie.lean); close each card by the builder's one call (the guide's Derived/Test/ToyasCard.lean, 'card_holds'). Laid BY PROGRAM, IN A SANDBOX (cutbox-door.mjs). By AI agents, Wed Nov 11 2026. No macro, syntax, notation, axiom, sorry.
-/
import Derived.Test.YtjjgbpeapgmhoaaGreatDoorRows
import GoSem.ClaimSeven
namespace Go.Proofs.YtjjgbpeapgmhoaaGreatDoor
namespace Rows

/-- THE TIED CARD OF 'dendronlaw13.DependGrids'. -/
def dependGridsCard : Claim7 := { stood := { row := dependGridsRow, standIns := [], harness := (true, "fb5917443786bba7b4e66f1a936e8a055fd41e5fb487f40dd4426ff2cd9a5caf"), looks := false }, kinds := [], alts := [], laidByText := true, laidKinds := [.data], laidTests := true, laidLooks := .later }
def DependGridsCardSaid : Prop := Claim7.holds Tryz.pinned (.plain (OpenSpec.ofChange dependGridsSpec)) dependGridsCard

/-- THE SECOND FORM's CARD OF 'dendronlaw13.DependGrids'. -/
def dependGridsUptoCard : Claim7 := { stood := { row := dependGridsUptoRow, standIns := [], harness := (true, "fb5917443786bba7b4e66f1a936e8a055fd41e5fb487f40dd4426ff2cd9a5caf"), looks := false }, kinds := [], alts := [], laidByText := true, laidKinds := [.data], laidTests := true, laidLooks := .later }
def DependGridsUptoCardSaid : Prop := Claim7.holds Tryz.pinned (.plain (OpenSpec.upto dependGridsSpec)) dependGridsUptoCard
end Rows
end Go.Proofs.YtjjgbpeapgmhoaaGreatDoor
