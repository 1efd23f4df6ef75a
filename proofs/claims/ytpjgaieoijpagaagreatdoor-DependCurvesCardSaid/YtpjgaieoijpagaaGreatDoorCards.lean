/-
  DERIVED. GIVEN WITH THE SEED: THE CARDS: each row of YtpjgaieoijpagaaGreatDoorRows.lean that lists a variable, with what it lists TIED to the program's text (the seventh form; the later family's looks); each row that meets fmt, with fmt's text TOLD by the authors' own Lean function (tested against real Go, not proved from fmt's source: count such statements apart). THE CARD IS WHAT COUNTS. Prove the row's statement (the work); the ties are given (YtpjgaieoijpagaaGreatDoorTie.lean); close each card by the builder's one call (the guide's Derived/Test/ToyasCard.lean, 'card_holds'). Laid BY PROGRAM, IN A SANDBOX (cutbox-door.mjs). By AI agents, Wed Nov 11 2026. No macro, syntax, notation, axiom, sorry.
-/
import Derived.Test.YtpjgaieoijpagaaGreatDoorRows
import GoSem.ClaimSeven
namespace Go.Proofs.YtpjgaieoijpagaaGreatDoor
namespace Rows

/-- THE TIED CARD OF 'dendronlaw25.TrimSays'. -/
def trimSaysCard : Claim7 := { stood := { row := trimSaysRow, standIns := [], harness := (true, "875b08a8a46de5b9fb2562fe951a5843ba5b79a350d33a063dd3f565fde03416"), looks := false }, kinds := [], alts := [], laidByText := true, laidKinds := [.data], laidTests := true, laidLooks := .later }
def TrimSaysCardSaid : Prop := Claim7.holds Tryz.pinned (.plain (OpenSpec.ofChange trimSaysSpec)) trimSaysCard

/-- THE TIED CARD OF 'dendronlaw25.TrimTurns'. -/
def trimTurnsCard : Claim7 := { stood := { row := trimTurnsRow, standIns := [], harness := (true, "875b08a8a46de5b9fb2562fe951a5843ba5b79a350d33a063dd3f565fde03416"), looks := false }, kinds := [], alts := [], laidByText := true, laidKinds := [.data], laidTests := true, laidLooks := .later }
def TrimTurnsCardSaid : Prop := Claim7.holds Tryz.pinned (.plain (OpenSpec.ofChange trimTurnsSpec)) trimTurnsCard

/-- THE TIED CARD OF 'dendronlaw13.DependCurves'. -/
def dependCurvesCard : Claim7 := { stood := { row := dependCurvesRow, standIns := [], harness := (true, "875b08a8a46de5b9fb2562fe951a5843ba5b79a350d33a063dd3f565fde03416"), looks := false }, kinds := [], alts := [], laidByText := true, laidKinds := [.data], laidTests := true, laidLooks := .later }
def DependCurvesCardSaid : Prop := Claim7.holds Tryz.pinned (.plain (OpenSpec.ofChange dependCurvesSpec)) dependCurvesCard

/-- THE TIED CARD OF 'dendronlaw13.DependGrids'. -/
def dependGridsCard : Claim7 := { stood := { row := dependGridsRow, standIns := [], harness := (true, "875b08a8a46de5b9fb2562fe951a5843ba5b79a350d33a063dd3f565fde03416"), looks := false }, kinds := [], alts := [], laidByText := true, laidKinds := [.data], laidTests := true, laidLooks := .later }
def DependGridsCardSaid : Prop := Claim7.holds Tryz.pinned (.plain (OpenSpec.ofChange dependGridsSpec)) dependGridsCard

/-- THE TIED CARD OF 'dendronlaw27.RankMeans'. -/
def rankMeansCard : Claim7 := { stood := { row := rankMeansRow, standIns := [], harness := (true, "875b08a8a46de5b9fb2562fe951a5843ba5b79a350d33a063dd3f565fde03416"), looks := false }, kinds := [], alts := [], laidByText := true, laidKinds := [.data], laidTests := true, laidLooks := .later }
def RankMeansCardSaid : Prop := Claim7.holds Tryz.pinned (.plain (OpenSpec.ofChange rankMeansSpec)) rankMeansCard

/-- THE SECOND FORM's CARD OF 'dendronlaw25.TrimSays'. -/
def trimSaysUptoCard : Claim7 := { stood := { row := trimSaysUptoRow, standIns := [], harness := (true, "875b08a8a46de5b9fb2562fe951a5843ba5b79a350d33a063dd3f565fde03416"), looks := false }, kinds := [], alts := [], laidByText := true, laidKinds := [.data], laidTests := true, laidLooks := .later }
def TrimSaysUptoCardSaid : Prop := Claim7.holds Tryz.pinned (.plain (OpenSpec.upto trimSaysSpec)) trimSaysUptoCard

/-- THE SECOND FORM's CARD OF 'dendronlaw25.TrimTurns'. -/
def trimTurnsUptoCard : Claim7 := { stood := { row := trimTurnsUptoRow, standIns := [], harness := (true, "875b08a8a46de5b9fb2562fe951a5843ba5b79a350d33a063dd3f565fde03416"), looks := false }, kinds := [], alts := [], laidByText := true, laidKinds := [.data], laidTests := true, laidLooks := .later }
def TrimTurnsUptoCardSaid : Prop := Claim7.holds Tryz.pinned (.plain (OpenSpec.upto trimTurnsSpec)) trimTurnsUptoCard

/-- THE SECOND FORM's CARD OF 'dendronlaw13.DependCurves'. -/
def dependCurvesUptoCard : Claim7 := { stood := { row := dependCurvesUptoRow, standIns := [], harness := (true, "875b08a8a46de5b9fb2562fe951a5843ba5b79a350d33a063dd3f565fde03416"), looks := false }, kinds := [], alts := [], laidByText := true, laidKinds := [.data], laidTests := true, laidLooks := .later }
def DependCurvesUptoCardSaid : Prop := Claim7.holds Tryz.pinned (.plain (OpenSpec.upto dependCurvesSpec)) dependCurvesUptoCard

/-- THE SECOND FORM's CARD OF 'dendronlaw13.DependGrids'. -/
def dependGridsUptoCard : Claim7 := { stood := { row := dependGridsUptoRow, standIns := [], harness := (true, "875b08a8a46de5b9fb2562fe951a5843ba5b79a350d33a063dd3f565fde03416"), looks := false }, kinds := [], alts := [], laidByText := true, laidKinds := [.data], laidTests := true, laidLooks := .later }
def DependGridsUptoCardSaid : Prop := Claim7.holds Tryz.pinned (.plain (OpenSpec.upto dependGridsSpec)) dependGridsUptoCard

/-- THE SECOND FORM's CARD OF 'dendronlaw27.RankMeans'. -/
def rankMeansUptoCard : Claim7 := { stood := { row := rankMeansUptoRow, standIns := [], harness := (true, "875b08a8a46de5b9fb2562fe951a5843ba5b79a350d33a063dd3f565fde03416"), looks := false }, kinds := [], alts := [], laidByText := true, laidKinds := [.data], laidTests := true, laidLooks := .later }
def RankMeansUptoCardSaid : Prop := Claim7.holds Tryz.pinned (.plain (OpenSpec.upto rankMeansSpec)) rankMeansUptoCard
end Rows
end Go.Proofs.YtpjgaieoijpagaaGreatDoor
