/-
  DERIVED. GIVEN WITH THE SEED: THE CARDS: each row of YtongppphgbkckaaGreatDoorRows.lean that lists a variable, with what it lists TIED to the program's text (the seventh form; the later family's looks); each row that meets fmt, with fmt's text TOLD by the authors' own Lean function (tested against real Go, not proved from fmt's source: count such statements apart). THE CARD IS WHAT COUNTS. Prove the row's statement (the work); the ties are given (YtongppphgbkckaaGreatDoorTie.lean); close each card by the builder's one call (the guide's Derived/Test/ToyasCard.lean, 'card_holds'). Laid BY PROGRAM, IN A SANDBOX (cutbox-door.mjs). By AI agents, Wed Nov 11 2026. No macro, syntax, notation, axiom, sorry.
-/
import Derived.Test.YtongppphgbkckaaGreatDoorRows
import GoSem.ClaimSeven
namespace Go.Proofs.YtongppphgbkckaaGreatDoor
namespace Rows

/-- THE TIED CARD OF 'dendronlaw11.ExpectTables'. -/
def expectTablesCard : Claim7 := { stood := { row := expectTablesRow, standIns := [], harness := (true, "0e6a953ca22b7fbda281922b856c675aff3d4d78fb8f86b811f1b0ff990709dc"), looks := false }, kinds := [], alts := [], laidByText := true, laidKinds := [.data], laidTests := true, laidLooks := .later }
def ExpectTablesCardSaid : Prop := Claim7.holds Tryz.pinned (.plain (OpenSpec.ofChange expectTablesSpec)) expectTablesCard

/-- THE TIED CARD OF 'dendronlaw11.ExpectLegs'. -/
def expectLegsCard : Claim7 := { stood := { row := expectLegsRow, standIns := [], harness := (true, "0e6a953ca22b7fbda281922b856c675aff3d4d78fb8f86b811f1b0ff990709dc"), looks := false }, kinds := [], alts := [], laidByText := true, laidKinds := [.data], laidTests := true, laidLooks := .later }
def ExpectLegsCardSaid : Prop := Claim7.holds Tryz.pinned (.plain (OpenSpec.ofChange expectLegsSpec)) expectLegsCard

/-- THE TIED CARD OF 'dendronlaw11.ExpectNodes'. -/
def expectNodesCard : Claim7 := { stood := { row := expectNodesRow, standIns := [], harness := (true, "0e6a953ca22b7fbda281922b856c675aff3d4d78fb8f86b811f1b0ff990709dc"), looks := false }, kinds := [], alts := [], laidByText := true, laidKinds := [.data], laidTests := true, laidLooks := .later }
def ExpectNodesCardSaid : Prop := Claim7.holds Tryz.pinned (.plain (OpenSpec.ofChange expectNodesSpec)) expectNodesCard

/-- THE TIED CARD OF 'dendronlaw12.SaabasSteps'. -/
def saabasStepsCard : Claim7 := { stood := { row := saabasStepsRow, standIns := [], harness := (true, "0e6a953ca22b7fbda281922b856c675aff3d4d78fb8f86b811f1b0ff990709dc"), looks := false }, kinds := [], alts := [], laidByText := true, laidKinds := [.data], laidTests := true, laidLooks := .later }
def SaabasStepsCardSaid : Prop := Claim7.holds Tryz.pinned (.plain (OpenSpec.ofChange saabasStepsSpec)) saabasStepsCard

/-- THE TIED CARD OF 'dendronlaw12.SaabasValues'. -/
def saabasValuesCard : Claim7 := { stood := { row := saabasValuesRow, standIns := [], harness := (true, "0e6a953ca22b7fbda281922b856c675aff3d4d78fb8f86b811f1b0ff990709dc"), looks := false }, kinds := [], alts := [], laidByText := true, laidKinds := [.data], laidTests := true, laidLooks := .later }
def SaabasValuesCardSaid : Prop := Claim7.holds Tryz.pinned (.plain (OpenSpec.ofChange saabasValuesSpec)) saabasValuesCard

/-- THE TIED CARD OF 'dendronlaw13.DependCovers'. -/
def dependCoversCard : Claim7 := { stood := { row := dependCoversRow, standIns := [], harness := (true, "0e6a953ca22b7fbda281922b856c675aff3d4d78fb8f86b811f1b0ff990709dc"), looks := false }, kinds := [], alts := [], laidByText := true, laidKinds := [.data], laidTests := true, laidLooks := .later }
def DependCoversCardSaid : Prop := Claim7.holds Tryz.pinned (.plain (OpenSpec.ofChange dependCoversSpec)) dependCoversCard

/-- THE TIED CARD OF 'dendronlaw13.DependAverages'. -/
def dependAveragesCard : Claim7 := { stood := { row := dependAveragesRow, standIns := [], harness := (true, "0e6a953ca22b7fbda281922b856c675aff3d4d78fb8f86b811f1b0ff990709dc"), looks := false }, kinds := [], alts := [], laidByText := true, laidKinds := [.data], laidTests := true, laidLooks := .later }
def DependAveragesCardSaid : Prop := Claim7.holds Tryz.pinned (.plain (OpenSpec.ofChange dependAveragesSpec)) dependAveragesCard

/-- THE SECOND FORM's CARD OF 'dendronlaw11.ExpectTables'. -/
def expectTablesUptoCard : Claim7 := { stood := { row := expectTablesUptoRow, standIns := [], harness := (true, "0e6a953ca22b7fbda281922b856c675aff3d4d78fb8f86b811f1b0ff990709dc"), looks := false }, kinds := [], alts := [], laidByText := true, laidKinds := [.data], laidTests := true, laidLooks := .later }
def ExpectTablesUptoCardSaid : Prop := Claim7.holds Tryz.pinned (.plain (OpenSpec.upto expectTablesSpec)) expectTablesUptoCard

/-- THE SECOND FORM's CARD OF 'dendronlaw11.ExpectLegs'. -/
def expectLegsUptoCard : Claim7 := { stood := { row := expectLegsUptoRow, standIns := [], harness := (true, "0e6a953ca22b7fbda281922b856c675aff3d4d78fb8f86b811f1b0ff990709dc"), looks := false }, kinds := [], alts := [], laidByText := true, laidKinds := [.data], laidTests := true, laidLooks := .later }
def ExpectLegsUptoCardSaid : Prop := Claim7.holds Tryz.pinned (.plain (OpenSpec.upto expectLegsSpec)) expectLegsUptoCard

/-- THE SECOND FORM's CARD OF 'dendronlaw11.ExpectNodes'. -/
def expectNodesUptoCard : Claim7 := { stood := { row := expectNodesUptoRow, standIns := [], harness := (true, "0e6a953ca22b7fbda281922b856c675aff3d4d78fb8f86b811f1b0ff990709dc"), looks := false }, kinds := [], alts := [], laidByText := true, laidKinds := [.data], laidTests := true, laidLooks := .later }
def ExpectNodesUptoCardSaid : Prop := Claim7.holds Tryz.pinned (.plain (OpenSpec.upto expectNodesSpec)) expectNodesUptoCard

/-- THE SECOND FORM's CARD OF 'dendronlaw12.SaabasSteps'. -/
def saabasStepsUptoCard : Claim7 := { stood := { row := saabasStepsUptoRow, standIns := [], harness := (true, "0e6a953ca22b7fbda281922b856c675aff3d4d78fb8f86b811f1b0ff990709dc"), looks := false }, kinds := [], alts := [], laidByText := true, laidKinds := [.data], laidTests := true, laidLooks := .later }
def SaabasStepsUptoCardSaid : Prop := Claim7.holds Tryz.pinned (.plain (OpenSpec.upto saabasStepsSpec)) saabasStepsUptoCard

/-- THE SECOND FORM's CARD OF 'dendronlaw12.SaabasValues'. -/
def saabasValuesUptoCard : Claim7 := { stood := { row := saabasValuesUptoRow, standIns := [], harness := (true, "0e6a953ca22b7fbda281922b856c675aff3d4d78fb8f86b811f1b0ff990709dc"), looks := false }, kinds := [], alts := [], laidByText := true, laidKinds := [.data], laidTests := true, laidLooks := .later }
def SaabasValuesUptoCardSaid : Prop := Claim7.holds Tryz.pinned (.plain (OpenSpec.upto saabasValuesSpec)) saabasValuesUptoCard

/-- THE SECOND FORM's CARD OF 'dendronlaw13.DependCovers'. -/
def dependCoversUptoCard : Claim7 := { stood := { row := dependCoversUptoRow, standIns := [], harness := (true, "0e6a953ca22b7fbda281922b856c675aff3d4d78fb8f86b811f1b0ff990709dc"), looks := false }, kinds := [], alts := [], laidByText := true, laidKinds := [.data], laidTests := true, laidLooks := .later }
def DependCoversUptoCardSaid : Prop := Claim7.holds Tryz.pinned (.plain (OpenSpec.upto dependCoversSpec)) dependCoversUptoCard

/-- THE SECOND FORM's CARD OF 'dendronlaw13.DependAverages'. -/
def dependAveragesUptoCard : Claim7 := { stood := { row := dependAveragesUptoRow, standIns := [], harness := (true, "0e6a953ca22b7fbda281922b856c675aff3d4d78fb8f86b811f1b0ff990709dc"), looks := false }, kinds := [], alts := [], laidByText := true, laidKinds := [.data], laidTests := true, laidLooks := .later }
def DependAveragesUptoCardSaid : Prop := Claim7.holds Tryz.pinned (.plain (OpenSpec.upto dependAveragesSpec)) dependAveragesUptoCard
end Rows
end Go.Proofs.YtongppphgbkckaaGreatDoor
