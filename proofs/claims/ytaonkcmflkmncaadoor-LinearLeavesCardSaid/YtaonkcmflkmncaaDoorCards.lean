/-
  DERIVED. GIVEN WITH THE SEED: THE CARDS: each row of YtaonkcmflkmncaaDoorRows.lean that lists a variable, with what it lists TIED to the program's text (the seventh form; the later family's looks); each row that meets fmt, with fmt's text TOLD by the authors' own Lean function (tested against real Go, not proved from fmt's source: count such statements apart). THE CARD IS WHAT COUNTS. Prove the row's statement (the work); the ties are given (YtaonkcmflkmncaaDoorTie.lean); close each card by the builder's one call (the guide's Derived/Test/ToyasCard.lean, 'card_holds'). Laid BY PROGRAM, IN A SANDBOX (cutbox-door.mjs). By AI agents, Wed Nov 11 2026. No macro, syntax, notation, axiom, sorry.
-/
import Derived.Test.YtaonkcmflkmncaaDoorRows
import GoSem.ClaimSeven
namespace Go.Proofs.YtaonkcmflkmncaaDoor
namespace Rows

/-- THE TIED CARD OF 'dendronlaw16.LinearLeaves'. -/
def linearLeavesCard : Claim7 := { stood := { row := linearLeavesRow, standIns := [], harness := (true, "de7561dfae7362508ea4cda7c16c8f6fcd4a244c4aa872201de25fef980bb2ec"), looks := false }, kinds := [], alts := [], laidByText := true, laidKinds := [.data], laidTests := true, laidLooks := .later }
def LinearLeavesCardSaid : Prop := Claim7.holds Tryd.pinned (.plain (OpenSpec.ofChange linearLeavesSpec)) linearLeavesCard

/-- THE SECOND FORM's CARD OF 'dendronlaw16.LinearLeaves'. -/
def linearLeavesUptoCard : Claim7 := { stood := { row := linearLeavesUptoRow, standIns := [], harness := (true, "de7561dfae7362508ea4cda7c16c8f6fcd4a244c4aa872201de25fef980bb2ec"), looks := false }, kinds := [], alts := [], laidByText := true, laidKinds := [.data], laidTests := true, laidLooks := .later }
def LinearLeavesUptoCardSaid : Prop := Claim7.holds Tryd.pinned (.plain (OpenSpec.upto linearLeavesSpec)) linearLeavesUptoCard
end Rows
end Go.Proofs.YtaonkcmflkmncaaDoor
