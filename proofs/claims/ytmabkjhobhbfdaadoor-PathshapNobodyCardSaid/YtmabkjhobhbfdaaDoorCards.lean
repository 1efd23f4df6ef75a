/-
  DERIVED. GIVEN WITH THE SEED: THE CARDS: each row of YtmabkjhobhbfdaaDoorRows.lean that lists a variable, with what it lists TIED to the program's text (the seventh form; the later family's looks); each row that meets fmt, with fmt's text TOLD by the authors' own Lean function (tested against real Go, not proved from fmt's source: count such statements apart). THE CARD IS WHAT COUNTS. Prove the row's statement (the work); the ties are given (YtmabkjhobhbfdaaDoorTie.lean); close each card by the builder's one call (the guide's Derived/Test/ToyasCard.lean, 'card_holds'). Laid BY PROGRAM, IN A SANDBOX (cutbox-door.mjs). By AI agents, Wed Nov 11 2026. No macro, syntax, notation, axiom, sorry.
-/
import Derived.Test.YtmabkjhobhbfdaaDoorRows
import GoSem.ClaimSeven
namespace Go.Proofs.YtmabkjhobhbfdaaDoor
namespace Rows

/-- THE TIED CARD OF 'dendronlaw15.PathshapNobody'. -/
def pathshapNobodyCard : Claim7 := { stood := { row := pathshapNobodyRow, standIns := [], harness := (true, "fa512d3f7b6c69297a3337873d4a3304cfbf70ece964345d007471e0a697a7be"), looks := false }, kinds := [], alts := [], laidByText := true, laidKinds := [.data], laidTests := true, laidLooks := .later }
def PathshapNobodyCardSaid : Prop := Claim7.holds Tryd.pinned (.plain (OpenSpec.ofChange pathshapNobodySpec)) pathshapNobodyCard

/-- THE SECOND FORM's CARD OF 'dendronlaw15.PathshapNobody'. -/
def pathshapNobodyUptoCard : Claim7 := { stood := { row := pathshapNobodyUptoRow, standIns := [], harness := (true, "fa512d3f7b6c69297a3337873d4a3304cfbf70ece964345d007471e0a697a7be"), looks := false }, kinds := [], alts := [], laidByText := true, laidKinds := [.data], laidTests := true, laidLooks := .later }
def PathshapNobodyUptoCardSaid : Prop := Claim7.holds Tryd.pinned (.plain (OpenSpec.upto pathshapNobodySpec)) pathshapNobodyUptoCard
end Rows
end Go.Proofs.YtmabkjhobhbfdaaDoor
