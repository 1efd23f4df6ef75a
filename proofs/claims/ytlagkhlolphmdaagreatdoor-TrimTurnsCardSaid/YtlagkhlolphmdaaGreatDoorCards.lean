/-
  DERIVED. GIVEN WITH THE SEED: THE CARDS: each row of YtlagkhlolphmdaaGreatDoorRows.lean that lists a variable, with what it lists TIED to the program's text (the seventh form; the later family's looks); each row that meets fmt, with fmt's text TOLD by the authors' own Lean function (tested against real Go, not proved from fmt's source: count such statements apart). THE CARD IS WHAT COUNTS. Prove the row's statement (the work); the ties are given (YtlagkhlolphmdaaGreatDoorTie.lean); close each card by the builder's one call (the guide's Derived/Test/ToyasCard.lean, 'card_holds'). Laid BY PROGRAM, IN A SANDBOX (cutbox-door.mjs). By AI agents, Wed Nov 11 2026. No macro, syntax, notation, axiom, sorry.
-/
import Derived.Test.YtlagkhlolphmdaaGreatDoorRows
import GoSem.ClaimSeven
namespace Go.Proofs.YtlagkhlolphmdaaGreatDoor
namespace Rows

/-- THE TIED CARD OF 'dendronlaw25.TrimTurns'. -/
def trimTurnsCard : Claim7 := { stood := { row := trimTurnsRow, standIns := [], harness := (true, "32dedd7af8f8171b3ca45107effcc74497db4866641b62ed200f3b51093d4473"), looks := false }, kinds := [], alts := [], laidByText := true, laidKinds := [.data], laidTests := true, laidLooks := .later }
def TrimTurnsCardSaid : Prop := Claim7.holds Tryz.pinned (.plain (OpenSpec.ofChange trimTurnsSpec)) trimTurnsCard

/-- THE SECOND FORM's CARD OF 'dendronlaw25.TrimTurns'. -/
def trimTurnsUptoCard : Claim7 := { stood := { row := trimTurnsUptoRow, standIns := [], harness := (true, "32dedd7af8f8171b3ca45107effcc74497db4866641b62ed200f3b51093d4473"), looks := false }, kinds := [], alts := [], laidByText := true, laidKinds := [.data], laidTests := true, laidLooks := .later }
def TrimTurnsUptoCardSaid : Prop := Claim7.holds Tryz.pinned (.plain (OpenSpec.upto trimTurnsSpec)) trimTurnsUptoCard
end Rows
end Go.Proofs.YtlagkhlolphmdaaGreatDoor
