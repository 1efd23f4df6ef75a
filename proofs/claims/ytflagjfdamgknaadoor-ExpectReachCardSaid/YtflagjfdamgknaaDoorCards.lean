/-
  DERIVED. GIVEN WITH THE SEED: THE CARDS: each row of YtflagjfdamgknaaDoorRows.lean that lists a variable, with what it lists TIED to the program's text (the seventh form; the later family's looks); each row that meets fmt, with fmt's text TOLD by the authors' own Lean function (tested against real Go, not proved from fmt's source: count such statements apart). THE CARD IS WHAT COUNTS. Prove the row's statement (the work); the ties are given (YtflagjfdamgknaaDoorTie.lean); close each card by the builder's one call (the guide's Derived/Test/ToyasCard.lean, 'card_holds'). Laid BY PROGRAM, IN A SANDBOX (cutbox-door.mjs). By AI agents, Wed Nov 11 2026. No macro, syntax, notation, axiom, sorry.
-/
import Derived.Test.YtflagjfdamgknaaDoorRows
import GoSem.ClaimSeven
namespace Go.Proofs.YtflagjfdamgknaaDoor
namespace Rows

/-- THE TIED CARD OF 'dendronlaw10.RouteLefts'. -/
def routeLeftsCard : Claim7 := { stood := { row := routeLeftsRow, standIns := [], harness := (true, "d712a6bb91f721aebaecfc360938eb6bed1e00b8d577acf7fcbcd4dac3b4a79b"), looks := false }, kinds := [], alts := [], laidByText := true, laidKinds := [.data], laidTests := true, laidLooks := .later }
def RouteLeftsCardSaid : Prop := Claim7.holds Tryd.pinned (.plain (OpenSpec.ofChange routeLeftsSpec)) routeLeftsCard

/-- THE TIED CARD OF 'dendronlaw10.RoutePredicts'. -/
def routePredictsCard : Claim7 := { stood := { row := routePredictsRow, standIns := [], harness := (true, "d712a6bb91f721aebaecfc360938eb6bed1e00b8d577acf7fcbcd4dac3b4a79b"), looks := false }, kinds := [], alts := [], laidByText := true, laidKinds := [.data], laidTests := true, laidLooks := .later }
def RoutePredictsCardSaid : Prop := Claim7.holds Tryd.pinned (.plain (OpenSpec.ofChange routePredictsSpec)) routePredictsCard

/-- THE TIED CARD OF 'dendronlaw10.RouteWays'. -/
def routeWaysCard : Claim7 := { stood := { row := routeWaysRow, standIns := [], harness := (true, "d712a6bb91f721aebaecfc360938eb6bed1e00b8d577acf7fcbcd4dac3b4a79b"), looks := false }, kinds := [], alts := [], laidByText := true, laidKinds := [.data], laidTests := true, laidLooks := .later }
def RouteWaysCardSaid : Prop := Claim7.holds Tryd.pinned (.plain (OpenSpec.ofChange routeWaysSpec)) routeWaysCard

/-- THE TIED CARD OF 'dendronlaw10.RouteCuts'. -/
def routeCutsCard : Claim7 := { stood := { row := routeCutsRow, standIns := [], harness := (true, "d712a6bb91f721aebaecfc360938eb6bed1e00b8d577acf7fcbcd4dac3b4a79b"), looks := false }, kinds := [], alts := [], laidByText := true, laidKinds := [.data], laidTests := true, laidLooks := .later }
def RouteCutsCardSaid : Prop := Claim7.holds Tryd.pinned (.plain (OpenSpec.ofChange routeCutsSpec)) routeCutsCard

/-- THE TIED CARD OF 'dendronlaw10.RouteStands'. -/
def routeStandsCard : Claim7 := { stood := { row := routeStandsRow, standIns := [], harness := (true, "d712a6bb91f721aebaecfc360938eb6bed1e00b8d577acf7fcbcd4dac3b4a79b"), looks := false }, kinds := [], alts := [], laidByText := true, laidKinds := [.data], laidTests := true, laidLooks := .later }
def RouteStandsCardSaid : Prop := Claim7.holds Tryd.pinned (.plain (OpenSpec.ofChange routeStandsSpec)) routeStandsCard

/-- THE TIED CARD OF 'dendronlaw11.ExpectReach'. -/
def expectReachCard : Claim7 := { stood := { row := expectReachRow, standIns := [], harness := (true, "d712a6bb91f721aebaecfc360938eb6bed1e00b8d577acf7fcbcd4dac3b4a79b"), looks := false }, kinds := [], alts := [], laidByText := true, laidKinds := [.data], laidTests := true, laidLooks := .later }
def ExpectReachCardSaid : Prop := Claim7.holds Tryd.pinned (.plain (OpenSpec.ofChange expectReachSpec)) expectReachCard

/-- THE TIED CARD OF 'dendronlaw11.ExpectBases'. -/
def expectBasesCard : Claim7 := { stood := { row := expectBasesRow, standIns := [], harness := (true, "d712a6bb91f721aebaecfc360938eb6bed1e00b8d577acf7fcbcd4dac3b4a79b"), looks := false }, kinds := [], alts := [], laidByText := true, laidKinds := [.data], laidTests := true, laidLooks := .later }
def ExpectBasesCardSaid : Prop := Claim7.holds Tryd.pinned (.plain (OpenSpec.ofChange expectBasesSpec)) expectBasesCard

/-- THE TIED CARD OF 'dendronlaw11.ExpectAll'. -/
def expectAllCard : Claim7 := { stood := { row := expectAllRow, standIns := [], harness := (true, "d712a6bb91f721aebaecfc360938eb6bed1e00b8d577acf7fcbcd4dac3b4a79b"), looks := false }, kinds := [], alts := [], laidByText := true, laidKinds := [.data], laidTests := true, laidLooks := .later }
def ExpectAllCardSaid : Prop := Claim7.holds Tryd.pinned (.plain (OpenSpec.ofChange expectAllSpec)) expectAllCard

/-- THE SECOND FORM's CARD OF 'dendronlaw10.RouteLefts'. -/
def routeLeftsUptoCard : Claim7 := { stood := { row := routeLeftsUptoRow, standIns := [], harness := (true, "d712a6bb91f721aebaecfc360938eb6bed1e00b8d577acf7fcbcd4dac3b4a79b"), looks := false }, kinds := [], alts := [], laidByText := true, laidKinds := [.data], laidTests := true, laidLooks := .later }
def RouteLeftsUptoCardSaid : Prop := Claim7.holds Tryd.pinned (.plain (OpenSpec.upto routeLeftsSpec)) routeLeftsUptoCard

/-- THE SECOND FORM's CARD OF 'dendronlaw10.RoutePredicts'. -/
def routePredictsUptoCard : Claim7 := { stood := { row := routePredictsUptoRow, standIns := [], harness := (true, "d712a6bb91f721aebaecfc360938eb6bed1e00b8d577acf7fcbcd4dac3b4a79b"), looks := false }, kinds := [], alts := [], laidByText := true, laidKinds := [.data], laidTests := true, laidLooks := .later }
def RoutePredictsUptoCardSaid : Prop := Claim7.holds Tryd.pinned (.plain (OpenSpec.upto routePredictsSpec)) routePredictsUptoCard

/-- THE SECOND FORM's CARD OF 'dendronlaw10.RouteWays'. -/
def routeWaysUptoCard : Claim7 := { stood := { row := routeWaysUptoRow, standIns := [], harness := (true, "d712a6bb91f721aebaecfc360938eb6bed1e00b8d577acf7fcbcd4dac3b4a79b"), looks := false }, kinds := [], alts := [], laidByText := true, laidKinds := [.data], laidTests := true, laidLooks := .later }
def RouteWaysUptoCardSaid : Prop := Claim7.holds Tryd.pinned (.plain (OpenSpec.upto routeWaysSpec)) routeWaysUptoCard

/-- THE SECOND FORM's CARD OF 'dendronlaw10.RouteCuts'. -/
def routeCutsUptoCard : Claim7 := { stood := { row := routeCutsUptoRow, standIns := [], harness := (true, "d712a6bb91f721aebaecfc360938eb6bed1e00b8d577acf7fcbcd4dac3b4a79b"), looks := false }, kinds := [], alts := [], laidByText := true, laidKinds := [.data], laidTests := true, laidLooks := .later }
def RouteCutsUptoCardSaid : Prop := Claim7.holds Tryd.pinned (.plain (OpenSpec.upto routeCutsSpec)) routeCutsUptoCard

/-- THE SECOND FORM's CARD OF 'dendronlaw10.RouteStands'. -/
def routeStandsUptoCard : Claim7 := { stood := { row := routeStandsUptoRow, standIns := [], harness := (true, "d712a6bb91f721aebaecfc360938eb6bed1e00b8d577acf7fcbcd4dac3b4a79b"), looks := false }, kinds := [], alts := [], laidByText := true, laidKinds := [.data], laidTests := true, laidLooks := .later }
def RouteStandsUptoCardSaid : Prop := Claim7.holds Tryd.pinned (.plain (OpenSpec.upto routeStandsSpec)) routeStandsUptoCard

/-- THE SECOND FORM's CARD OF 'dendronlaw11.ExpectReach'. -/
def expectReachUptoCard : Claim7 := { stood := { row := expectReachUptoRow, standIns := [], harness := (true, "d712a6bb91f721aebaecfc360938eb6bed1e00b8d577acf7fcbcd4dac3b4a79b"), looks := false }, kinds := [], alts := [], laidByText := true, laidKinds := [.data], laidTests := true, laidLooks := .later }
def ExpectReachUptoCardSaid : Prop := Claim7.holds Tryd.pinned (.plain (OpenSpec.upto expectReachSpec)) expectReachUptoCard

/-- THE SECOND FORM's CARD OF 'dendronlaw11.ExpectBases'. -/
def expectBasesUptoCard : Claim7 := { stood := { row := expectBasesUptoRow, standIns := [], harness := (true, "d712a6bb91f721aebaecfc360938eb6bed1e00b8d577acf7fcbcd4dac3b4a79b"), looks := false }, kinds := [], alts := [], laidByText := true, laidKinds := [.data], laidTests := true, laidLooks := .later }
def ExpectBasesUptoCardSaid : Prop := Claim7.holds Tryd.pinned (.plain (OpenSpec.upto expectBasesSpec)) expectBasesUptoCard

/-- THE SECOND FORM's CARD OF 'dendronlaw11.ExpectAll'. -/
def expectAllUptoCard : Claim7 := { stood := { row := expectAllUptoRow, standIns := [], harness := (true, "d712a6bb91f721aebaecfc360938eb6bed1e00b8d577acf7fcbcd4dac3b4a79b"), looks := false }, kinds := [], alts := [], laidByText := true, laidKinds := [.data], laidTests := true, laidLooks := .later }
def ExpectAllUptoCardSaid : Prop := Claim7.holds Tryd.pinned (.plain (OpenSpec.upto expectAllSpec)) expectAllUptoCard
end Rows
end Go.Proofs.YtflagjfdamgknaaDoor
