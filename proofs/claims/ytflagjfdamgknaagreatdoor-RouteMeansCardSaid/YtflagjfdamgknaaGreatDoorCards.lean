/-
  DERIVED. GIVEN WITH THE SEED: THE CARDS: each row of YtflagjfdamgknaaGreatDoorRows.lean that lists a variable, with what it lists TIED to the program's text (the seventh form; the later family's looks); each row that meets fmt, with fmt's text TOLD by the authors' own Lean function (tested against real Go, not proved from fmt's source: count such statements apart). THE CARD IS WHAT COUNTS. Prove the row's statement (the work); the ties are given (YtflagjfdamgknaaGreatDoorTie.lean); close each card by the builder's one call (the guide's Derived/Test/ToyasCard.lean, 'card_holds'). Laid BY PROGRAM, IN A SANDBOX (cutbox-door.mjs). By AI agents, Wed Nov 11 2026. No macro, syntax, notation, axiom, sorry.
-/
import Derived.Test.YtflagjfdamgknaaGreatDoorRows
import GoSem.ClaimSeven
namespace Go.Proofs.YtflagjfdamgknaaGreatDoor
namespace Rows

/-- THE TIED CARD OF 'dendronlaw10.RouteMeans'. -/
def routeMeansCard : Claim7 := { stood := { row := routeMeansRow, standIns := [], harness := (true, "2cac0e1c9f38f9718bc0a0f246d3e63d18005a6a1617ae7864c819c0f8802c9c"), looks := false }, kinds := [], alts := [], laidByText := true, laidKinds := [.data], laidTests := true, laidLooks := .later }
def RouteMeansCardSaid : Prop := Claim7.holds Tryz.pinned (.plain (OpenSpec.ofChange routeMeansSpec)) routeMeansCard

/-- THE TIED CARD OF 'dendronlaw11.ExpectValues'. -/
def expectValuesCard : Claim7 := { stood := { row := expectValuesRow, standIns := [], harness := (true, "2cac0e1c9f38f9718bc0a0f246d3e63d18005a6a1617ae7864c819c0f8802c9c"), looks := false }, kinds := [], alts := [], laidByText := true, laidKinds := [.data], laidTests := true, laidLooks := .later }
def ExpectValuesCardSaid : Prop := Claim7.holds Tryz.pinned (.plain (OpenSpec.ofChange expectValuesSpec)) expectValuesCard

/-- THE SECOND FORM's CARD OF 'dendronlaw10.RouteMeans'. -/
def routeMeansUptoCard : Claim7 := { stood := { row := routeMeansUptoRow, standIns := [], harness := (true, "2cac0e1c9f38f9718bc0a0f246d3e63d18005a6a1617ae7864c819c0f8802c9c"), looks := false }, kinds := [], alts := [], laidByText := true, laidKinds := [.data], laidTests := true, laidLooks := .later }
def RouteMeansUptoCardSaid : Prop := Claim7.holds Tryz.pinned (.plain (OpenSpec.upto routeMeansSpec)) routeMeansUptoCard

/-- THE SECOND FORM's CARD OF 'dendronlaw11.ExpectValues'. -/
def expectValuesUptoCard : Claim7 := { stood := { row := expectValuesUptoRow, standIns := [], harness := (true, "2cac0e1c9f38f9718bc0a0f246d3e63d18005a6a1617ae7864c819c0f8802c9c"), looks := false }, kinds := [], alts := [], laidByText := true, laidKinds := [.data], laidTests := true, laidLooks := .later }
def ExpectValuesUptoCardSaid : Prop := Claim7.holds Tryz.pinned (.plain (OpenSpec.upto expectValuesSpec)) expectValuesUptoCard
end Rows
end Go.Proofs.YtflagjfdamgknaaGreatDoor
