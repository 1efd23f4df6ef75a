/-
  DERIVED. GIVEN WITH THE SEED: THE CARDS: each row of YtaonkcmflkmncaaGreatDoorRows.lean that lists a variable, with what it lists TIED to the program's text (the seventh form; the later family's looks); each row that meets fmt, with fmt's text TOLD by the authors' own Lean function (tested against real Go, not proved from fmt's source: count such statements apart). THE CARD IS WHAT COUNTS. Prove the row's statement (the work); the ties are given (YtaonkcmflkmncaaGreatDoorTie.lean); close each card by the builder's one call (the guide's Derived/Test/ToyasCard.lean, 'card_holds'). Laid BY PROGRAM, IN A SANDBOX (cutbox-door.mjs). By AI agents, Wed Nov 11 2026. No macro, syntax, notation, axiom, sorry.
-/
import Derived.Test.YtaonkcmflkmncaaGreatDoorRows
import GoSem.ClaimSeven
namespace Go.Proofs.YtaonkcmflkmncaaGreatDoor
namespace Rows

/-- THE TIED CARD OF 'dendronlaw16.LinearWithouts'. -/
def linearWithoutsCard : Claim7 := { stood := { row := linearWithoutsRow, standIns := [], harness := (true, "186a9e3f8595f7e431c2dcb9d943547edf2d17849ba057e6c85be4ff3c325a19"), looks := false }, kinds := [], alts := [], laidByText := true, laidKinds := [.data], laidTests := true, laidLooks := .later }
def LinearWithoutsCardSaid : Prop := Claim7.holds Tryz.pinned (.plain (OpenSpec.ofChange linearWithoutsSpec)) linearWithoutsCard

/-- THE TIED CARD OF 'dendronlaw16.LinearAreas'. -/
def linearAreasCard : Claim7 := { stood := { row := linearAreasRow, standIns := [], harness := (true, "186a9e3f8595f7e431c2dcb9d943547edf2d17849ba057e6c85be4ff3c325a19"), looks := false }, kinds := [], alts := [], laidByText := true, laidKinds := [.data], laidTests := true, laidLooks := .later }
def LinearAreasCardSaid : Prop := Claim7.holds Tryz.pinned (.plain (OpenSpec.ofChange linearAreasSpec)) linearAreasCard

/-- THE TIED CARD OF 'dendronlaw16.LinearLegs'. -/
def linearLegsCard : Claim7 := { stood := { row := linearLegsRow, standIns := [], harness := (true, "186a9e3f8595f7e431c2dcb9d943547edf2d17849ba057e6c85be4ff3c325a19"), looks := false }, kinds := [], alts := [], laidByText := true, laidKinds := [.data], laidTests := true, laidLooks := .later }
def LinearLegsCardSaid : Prop := Claim7.holds Tryz.pinned (.plain (OpenSpec.ofChange linearLegsSpec)) linearLegsCard

/-- THE TIED CARD OF 'dendronlaw17.VersusSelf'. -/
def versusSelfCard : Claim7 := { stood := { row := versusSelfRow, standIns := [], harness := (true, "186a9e3f8595f7e431c2dcb9d943547edf2d17849ba057e6c85be4ff3c325a19"), looks := false }, kinds := [], alts := [], laidByText := true, laidKinds := [.data], laidTests := true, laidLooks := .later }
def VersusSelfCardSaid : Prop := Claim7.holds Tryz.pinned (.plain (OpenSpec.ofChange versusSelfSpec)) versusSelfCard

/-- THE TIED CARD OF 'dendronlaw17.VersusMeans'. -/
def versusMeansCard : Claim7 := { stood := { row := versusMeansRow, standIns := [], harness := (true, "186a9e3f8595f7e431c2dcb9d943547edf2d17849ba057e6c85be4ff3c325a19"), looks := false }, kinds := [], alts := [], laidByText := true, laidKinds := [.data], laidTests := true, laidLooks := .later }
def VersusMeansCardSaid : Prop := Claim7.holds Tryz.pinned (.plain (OpenSpec.ofChange versusMeansSpec)) versusMeansCard

/-- THE TIED CARD OF 'dendronlaw17.VersusValues'. -/
def versusValuesCard : Claim7 := { stood := { row := versusValuesRow, standIns := [], harness := (true, "186a9e3f8595f7e431c2dcb9d943547edf2d17849ba057e6c85be4ff3c325a19"), looks := false }, kinds := [], alts := [], laidByText := true, laidKinds := [.data], laidTests := true, laidLooks := .later }
def VersusValuesCardSaid : Prop := Claim7.holds Tryz.pinned (.plain (OpenSpec.ofChange versusValuesSpec)) versusValuesCard

/-- THE TIED CARD OF 'dendronlaw17.VersusWorths'. -/
def versusWorthsCard : Claim7 := { stood := { row := versusWorthsRow, standIns := [], harness := (true, "186a9e3f8595f7e431c2dcb9d943547edf2d17849ba057e6c85be4ff3c325a19"), looks := false }, kinds := [], alts := [], laidByText := true, laidKinds := [.data], laidTests := true, laidLooks := .later }
def VersusWorthsCardSaid : Prop := Claim7.holds Tryz.pinned (.plain (OpenSpec.ofChange versusWorthsSpec)) versusWorthsCard

/-- THE TIED CARD OF 'dendronlaw17.VersusTables'. -/
def versusTablesCard : Claim7 := { stood := { row := versusTablesRow, standIns := [], harness := (true, "186a9e3f8595f7e431c2dcb9d943547edf2d17849ba057e6c85be4ff3c325a19"), looks := false }, kinds := [], alts := [], laidByText := true, laidKinds := [.data], laidTests := true, laidLooks := .later }
def VersusTablesCardSaid : Prop := Claim7.holds Tryz.pinned (.plain (OpenSpec.ofChange versusTablesSpec)) versusTablesCard

/-- THE TIED CARD OF 'dendronlaw17.VersusAdds'. -/
def versusAddsCard : Claim7 := { stood := { row := versusAddsRow, standIns := [], harness := (true, "186a9e3f8595f7e431c2dcb9d943547edf2d17849ba057e6c85be4ff3c325a19"), looks := false }, kinds := [], alts := [], laidByText := true, laidKinds := [.data], laidTests := true, laidLooks := .later }
def VersusAddsCardSaid : Prop := Claim7.holds Tryz.pinned (.plain (OpenSpec.ofChange versusAddsSpec)) versusAddsCard

/-- THE SECOND FORM's CARD OF 'dendronlaw16.LinearWithouts'. -/
def linearWithoutsUptoCard : Claim7 := { stood := { row := linearWithoutsUptoRow, standIns := [], harness := (true, "186a9e3f8595f7e431c2dcb9d943547edf2d17849ba057e6c85be4ff3c325a19"), looks := false }, kinds := [], alts := [], laidByText := true, laidKinds := [.data], laidTests := true, laidLooks := .later }
def LinearWithoutsUptoCardSaid : Prop := Claim7.holds Tryz.pinned (.plain (OpenSpec.upto linearWithoutsSpec)) linearWithoutsUptoCard

/-- THE SECOND FORM's CARD OF 'dendronlaw16.LinearAreas'. -/
def linearAreasUptoCard : Claim7 := { stood := { row := linearAreasUptoRow, standIns := [], harness := (true, "186a9e3f8595f7e431c2dcb9d943547edf2d17849ba057e6c85be4ff3c325a19"), looks := false }, kinds := [], alts := [], laidByText := true, laidKinds := [.data], laidTests := true, laidLooks := .later }
def LinearAreasUptoCardSaid : Prop := Claim7.holds Tryz.pinned (.plain (OpenSpec.upto linearAreasSpec)) linearAreasUptoCard

/-- THE SECOND FORM's CARD OF 'dendronlaw16.LinearLegs'. -/
def linearLegsUptoCard : Claim7 := { stood := { row := linearLegsUptoRow, standIns := [], harness := (true, "186a9e3f8595f7e431c2dcb9d943547edf2d17849ba057e6c85be4ff3c325a19"), looks := false }, kinds := [], alts := [], laidByText := true, laidKinds := [.data], laidTests := true, laidLooks := .later }
def LinearLegsUptoCardSaid : Prop := Claim7.holds Tryz.pinned (.plain (OpenSpec.upto linearLegsSpec)) linearLegsUptoCard

/-- THE SECOND FORM's CARD OF 'dendronlaw17.VersusSelf'. -/
def versusSelfUptoCard : Claim7 := { stood := { row := versusSelfUptoRow, standIns := [], harness := (true, "186a9e3f8595f7e431c2dcb9d943547edf2d17849ba057e6c85be4ff3c325a19"), looks := false }, kinds := [], alts := [], laidByText := true, laidKinds := [.data], laidTests := true, laidLooks := .later }
def VersusSelfUptoCardSaid : Prop := Claim7.holds Tryz.pinned (.plain (OpenSpec.upto versusSelfSpec)) versusSelfUptoCard

/-- THE SECOND FORM's CARD OF 'dendronlaw17.VersusMeans'. -/
def versusMeansUptoCard : Claim7 := { stood := { row := versusMeansUptoRow, standIns := [], harness := (true, "186a9e3f8595f7e431c2dcb9d943547edf2d17849ba057e6c85be4ff3c325a19"), looks := false }, kinds := [], alts := [], laidByText := true, laidKinds := [.data], laidTests := true, laidLooks := .later }
def VersusMeansUptoCardSaid : Prop := Claim7.holds Tryz.pinned (.plain (OpenSpec.upto versusMeansSpec)) versusMeansUptoCard

/-- THE SECOND FORM's CARD OF 'dendronlaw17.VersusValues'. -/
def versusValuesUptoCard : Claim7 := { stood := { row := versusValuesUptoRow, standIns := [], harness := (true, "186a9e3f8595f7e431c2dcb9d943547edf2d17849ba057e6c85be4ff3c325a19"), looks := false }, kinds := [], alts := [], laidByText := true, laidKinds := [.data], laidTests := true, laidLooks := .later }
def VersusValuesUptoCardSaid : Prop := Claim7.holds Tryz.pinned (.plain (OpenSpec.upto versusValuesSpec)) versusValuesUptoCard

/-- THE SECOND FORM's CARD OF 'dendronlaw17.VersusWorths'. -/
def versusWorthsUptoCard : Claim7 := { stood := { row := versusWorthsUptoRow, standIns := [], harness := (true, "186a9e3f8595f7e431c2dcb9d943547edf2d17849ba057e6c85be4ff3c325a19"), looks := false }, kinds := [], alts := [], laidByText := true, laidKinds := [.data], laidTests := true, laidLooks := .later }
def VersusWorthsUptoCardSaid : Prop := Claim7.holds Tryz.pinned (.plain (OpenSpec.upto versusWorthsSpec)) versusWorthsUptoCard

/-- THE SECOND FORM's CARD OF 'dendronlaw17.VersusTables'. -/
def versusTablesUptoCard : Claim7 := { stood := { row := versusTablesUptoRow, standIns := [], harness := (true, "186a9e3f8595f7e431c2dcb9d943547edf2d17849ba057e6c85be4ff3c325a19"), looks := false }, kinds := [], alts := [], laidByText := true, laidKinds := [.data], laidTests := true, laidLooks := .later }
def VersusTablesUptoCardSaid : Prop := Claim7.holds Tryz.pinned (.plain (OpenSpec.upto versusTablesSpec)) versusTablesUptoCard

/-- THE SECOND FORM's CARD OF 'dendronlaw17.VersusAdds'. -/
def versusAddsUptoCard : Claim7 := { stood := { row := versusAddsUptoRow, standIns := [], harness := (true, "186a9e3f8595f7e431c2dcb9d943547edf2d17849ba057e6c85be4ff3c325a19"), looks := false }, kinds := [], alts := [], laidByText := true, laidKinds := [.data], laidTests := true, laidLooks := .later }
def VersusAddsUptoCardSaid : Prop := Claim7.holds Tryz.pinned (.plain (OpenSpec.upto versusAddsSpec)) versusAddsUptoCard
end Rows
end Go.Proofs.YtaonkcmflkmncaaGreatDoor
