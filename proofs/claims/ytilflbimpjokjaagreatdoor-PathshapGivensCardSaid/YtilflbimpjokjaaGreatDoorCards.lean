/-
  DERIVED. GIVEN WITH THE SEED: THE CARDS: each row of YtilflbimpjokjaaGreatDoorRows.lean that lists a variable, with what it lists TIED to the program's text (the seventh form; the later family's looks); each row that meets fmt, with fmt's text TOLD by the authors' own Lean function (tested against real Go, not proved from fmt's source: count such statements apart). THE CARD IS WHAT COUNTS. Prove the row's statement (the work); the ties are given (YtilflbimpjokjaaGreatDoorTie.lean); close each card by the builder's one call (the guide's Derived/Test/ToyasCard.lean, 'card_holds'). Laid BY PROGRAM, IN A SANDBOX (cutbox-door.mjs). By AI agents, Wed Nov 11 2026. No macro, syntax, notation, axiom, sorry.
-/
import Derived.Test.YtilflbimpjokjaaGreatDoorRows
import GoSem.ClaimSeven
namespace Go.Proofs.YtilflbimpjokjaaGreatDoor
namespace Rows

/-- THE TIED CARD OF 'dendronlaw15.PathshapValues'. -/
def pathshapValuesCard : Claim7 := { stood := { row := pathshapValuesRow, standIns := [], harness := (true, "8dd8f18c96577f56e418a469200204a626cac6f8cdc0123cd6d8061595dea019"), looks := false }, kinds := [], alts := [], laidByText := true, laidKinds := [.data], laidTests := true, laidLooks := .later }
def PathshapValuesCardSaid : Prop := Claim7.holds Tryz.pinned (.plain (OpenSpec.ofChange pathshapValuesSpec)) pathshapValuesCard

/-- THE TIED CARD OF 'dendronlaw15.PathshapGivens'. -/
def pathshapGivensCard : Claim7 := { stood := { row := pathshapGivensRow, standIns := [], harness := (true, "8dd8f18c96577f56e418a469200204a626cac6f8cdc0123cd6d8061595dea019"), looks := false }, kinds := [], alts := [], laidByText := true, laidKinds := [.data], laidTests := true, laidLooks := .later }
def PathshapGivensCardSaid : Prop := Claim7.holds Tryz.pinned (.plain (OpenSpec.ofChange pathshapGivensSpec)) pathshapGivensCard

/-- THE SECOND FORM's CARD OF 'dendronlaw15.PathshapValues'. -/
def pathshapValuesUptoCard : Claim7 := { stood := { row := pathshapValuesUptoRow, standIns := [], harness := (true, "8dd8f18c96577f56e418a469200204a626cac6f8cdc0123cd6d8061595dea019"), looks := false }, kinds := [], alts := [], laidByText := true, laidKinds := [.data], laidTests := true, laidLooks := .later }
def PathshapValuesUptoCardSaid : Prop := Claim7.holds Tryz.pinned (.plain (OpenSpec.upto pathshapValuesSpec)) pathshapValuesUptoCard

/-- THE SECOND FORM's CARD OF 'dendronlaw15.PathshapGivens'. -/
def pathshapGivensUptoCard : Claim7 := { stood := { row := pathshapGivensUptoRow, standIns := [], harness := (true, "8dd8f18c96577f56e418a469200204a626cac6f8cdc0123cd6d8061595dea019"), looks := false }, kinds := [], alts := [], laidByText := true, laidKinds := [.data], laidTests := true, laidLooks := .later }
def PathshapGivensUptoCardSaid : Prop := Claim7.holds Tryz.pinned (.plain (OpenSpec.upto pathshapGivensSpec)) pathshapGivensUptoCard
end Rows
end Go.Proofs.YtilflbimpjokjaaGreatDoor
