/-
  DERIVED. GIVEN WITH THE SEED: THE CARDS: each row of YtdkcgmbdeimonaaDoorRows.lean that lists a variable, with what it lists TIED to the program's text (the seventh form; the later family's looks); each row that meets fmt, with fmt's text TOLD by the authors' own Lean function (tested against real Go, not proved from fmt's source: count such statements apart). THE CARD IS WHAT COUNTS. Prove the row's statement (the work); the ties are given (YtdkcgmbdeimonaaDoorTie.lean); close each card by the builder's one call (the guide's Derived/Test/ToyasCard.lean, 'card_holds'). Laid BY PROGRAM, IN A SANDBOX (cutbox-door.mjs). By AI agents, Wed Nov 11 2026. No macro, syntax, notation, axiom, sorry.
-/
import Derived.Test.YtdkcgmbdeimonaaDoorRows
import GoSem.ClaimSeven
namespace Go.Proofs.YtdkcgmbdeimonaaDoor
namespace Rows

/-- THE TIED CARD OF 'dendronlaw27.RankOrders'. -/
def rankOrdersCard : Claim7 := { stood := { row := rankOrdersRow, standIns := [], harness := (true, "c57ce42750519942840684a985ced9d45b3a7492735cbdfbd853b22512f6a60e"), looks := false }, kinds := [], alts := [], laidByText := true, laidKinds := [.data], laidTests := true, laidLooks := .later }
def RankOrdersCardSaid : Prop := Claim7.holds Tryd.pinned (.plain (OpenSpec.ofChange rankOrdersSpec)) rankOrdersCard

/-- THE TIED CARD OF 'dendronlaw13.DependPlaces'. -/
def dependPlacesCard : Claim7 := { stood := { row := dependPlacesRow, standIns := [], harness := (true, "c57ce42750519942840684a985ced9d45b3a7492735cbdfbd853b22512f6a60e"), looks := false }, kinds := [], alts := [], laidByText := true, laidKinds := [.data], laidTests := true, laidLooks := .later }
def DependPlacesCardSaid : Prop := Claim7.holds Tryd.pinned (.plain (OpenSpec.ofChange dependPlacesSpec)) dependPlacesCard

/-- THE TIED CARD OF 'dendronlaw27.RankMedians'. -/
def rankMediansCard : Claim7 := { stood := { row := rankMediansRow, standIns := [], harness := (true, "c57ce42750519942840684a985ced9d45b3a7492735cbdfbd853b22512f6a60e"), looks := false }, kinds := [], alts := [], laidByText := true, laidKinds := [.data], laidTests := true, laidLooks := .later }
def RankMediansCardSaid : Prop := Claim7.holds Tryd.pinned (.plain (OpenSpec.ofChange rankMediansSpec)) rankMediansCard

/-- THE TIED CARD OF 'dendronlaw27.RankShares'. -/
def rankSharesCard : Claim7 := { stood := { row := rankSharesRow, standIns := [], harness := (true, "c57ce42750519942840684a985ced9d45b3a7492735cbdfbd853b22512f6a60e"), looks := false }, kinds := [], alts := [], laidByText := true, laidKinds := [.data], laidTests := true, laidLooks := .later }
def RankSharesCardSaid : Prop := Claim7.holds Tryd.pinned (.plain (OpenSpec.ofChange rankSharesSpec)) rankSharesCard

/-- THE TIED CARD OF 'dendronlaw27.RankCovers'. -/
def rankCoversCard : Claim7 := { stood := { row := rankCoversRow, standIns := [], harness := (true, "c57ce42750519942840684a985ced9d45b3a7492735cbdfbd853b22512f6a60e"), looks := false }, kinds := [], alts := [], laidByText := true, laidKinds := [.data], laidTests := true, laidLooks := .later }
def RankCoversCardSaid : Prop := Claim7.holds Tryd.pinned (.plain (OpenSpec.ofChange rankCoversSpec)) rankCoversCard

/-- THE TIED CARD OF 'dendronlaw27.RankSpreads'. -/
def rankSpreadsCard : Claim7 := { stood := { row := rankSpreadsRow, standIns := [], harness := (true, "c57ce42750519942840684a985ced9d45b3a7492735cbdfbd853b22512f6a60e"), looks := false }, kinds := [], alts := [], laidByText := true, laidKinds := [.data], laidTests := true, laidLooks := .later }
def RankSpreadsCardSaid : Prop := Claim7.holds Tryd.pinned (.plain (OpenSpec.ofChange rankSpreadsSpec)) rankSpreadsCard

/-- THE TIED CARD OF 'dendronlaw25.TrimOrders'. -/
def trimOrdersCard : Claim7 := { stood := { row := trimOrdersRow, standIns := [], harness := (true, "c57ce42750519942840684a985ced9d45b3a7492735cbdfbd853b22512f6a60e"), looks := false }, kinds := [], alts := [], laidByText := true, laidKinds := [.data], laidTests := true, laidLooks := .later }
def TrimOrdersCardSaid : Prop := Claim7.holds Tryd.pinned (.plain (OpenSpec.ofChange trimOrdersSpec)) trimOrdersCard

/-- THE SECOND FORM's CARD OF 'dendronlaw27.RankOrders'. -/
def rankOrdersUptoCard : Claim7 := { stood := { row := rankOrdersUptoRow, standIns := [], harness := (true, "c57ce42750519942840684a985ced9d45b3a7492735cbdfbd853b22512f6a60e"), looks := false }, kinds := [], alts := [], laidByText := true, laidKinds := [.data], laidTests := true, laidLooks := .later }
def RankOrdersUptoCardSaid : Prop := Claim7.holds Tryd.pinned (.plain (OpenSpec.upto rankOrdersSpec)) rankOrdersUptoCard

/-- THE SECOND FORM's CARD OF 'dendronlaw13.DependPlaces'. -/
def dependPlacesUptoCard : Claim7 := { stood := { row := dependPlacesUptoRow, standIns := [], harness := (true, "c57ce42750519942840684a985ced9d45b3a7492735cbdfbd853b22512f6a60e"), looks := false }, kinds := [], alts := [], laidByText := true, laidKinds := [.data], laidTests := true, laidLooks := .later }
def DependPlacesUptoCardSaid : Prop := Claim7.holds Tryd.pinned (.plain (OpenSpec.upto dependPlacesSpec)) dependPlacesUptoCard

/-- THE SECOND FORM's CARD OF 'dendronlaw27.RankMedians'. -/
def rankMediansUptoCard : Claim7 := { stood := { row := rankMediansUptoRow, standIns := [], harness := (true, "c57ce42750519942840684a985ced9d45b3a7492735cbdfbd853b22512f6a60e"), looks := false }, kinds := [], alts := [], laidByText := true, laidKinds := [.data], laidTests := true, laidLooks := .later }
def RankMediansUptoCardSaid : Prop := Claim7.holds Tryd.pinned (.plain (OpenSpec.upto rankMediansSpec)) rankMediansUptoCard

/-- THE SECOND FORM's CARD OF 'dendronlaw27.RankShares'. -/
def rankSharesUptoCard : Claim7 := { stood := { row := rankSharesUptoRow, standIns := [], harness := (true, "c57ce42750519942840684a985ced9d45b3a7492735cbdfbd853b22512f6a60e"), looks := false }, kinds := [], alts := [], laidByText := true, laidKinds := [.data], laidTests := true, laidLooks := .later }
def RankSharesUptoCardSaid : Prop := Claim7.holds Tryd.pinned (.plain (OpenSpec.upto rankSharesSpec)) rankSharesUptoCard

/-- THE SECOND FORM's CARD OF 'dendronlaw27.RankCovers'. -/
def rankCoversUptoCard : Claim7 := { stood := { row := rankCoversUptoRow, standIns := [], harness := (true, "c57ce42750519942840684a985ced9d45b3a7492735cbdfbd853b22512f6a60e"), looks := false }, kinds := [], alts := [], laidByText := true, laidKinds := [.data], laidTests := true, laidLooks := .later }
def RankCoversUptoCardSaid : Prop := Claim7.holds Tryd.pinned (.plain (OpenSpec.upto rankCoversSpec)) rankCoversUptoCard

/-- THE SECOND FORM's CARD OF 'dendronlaw27.RankSpreads'. -/
def rankSpreadsUptoCard : Claim7 := { stood := { row := rankSpreadsUptoRow, standIns := [], harness := (true, "c57ce42750519942840684a985ced9d45b3a7492735cbdfbd853b22512f6a60e"), looks := false }, kinds := [], alts := [], laidByText := true, laidKinds := [.data], laidTests := true, laidLooks := .later }
def RankSpreadsUptoCardSaid : Prop := Claim7.holds Tryd.pinned (.plain (OpenSpec.upto rankSpreadsSpec)) rankSpreadsUptoCard

/-- THE SECOND FORM's CARD OF 'dendronlaw25.TrimOrders'. -/
def trimOrdersUptoCard : Claim7 := { stood := { row := trimOrdersUptoRow, standIns := [], harness := (true, "c57ce42750519942840684a985ced9d45b3a7492735cbdfbd853b22512f6a60e"), looks := false }, kinds := [], alts := [], laidByText := true, laidKinds := [.data], laidTests := true, laidLooks := .later }
def TrimOrdersUptoCardSaid : Prop := Claim7.holds Tryd.pinned (.plain (OpenSpec.upto trimOrdersSpec)) trimOrdersUptoCard
end Rows
end Go.Proofs.YtdkcgmbdeimonaaDoor
