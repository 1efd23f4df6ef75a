/-
  DERIVED. GIVEN WITH THE SEED: THE CARDS: each row of YtlagkhlolphmdaaDoorRows.lean that lists a variable, with what it lists TIED to the program's text (the seventh form; the later family's looks); each row that meets fmt, with fmt's text TOLD by the authors' own Lean function (tested against real Go, not proved from fmt's source: count such statements apart). THE CARD IS WHAT COUNTS. Prove the row's statement (the work); the ties are given (YtlagkhlolphmdaaDoorTie.lean); close each card by the builder's one call (the guide's Derived/Test/ToyasCard.lean, 'card_holds'). Laid BY PROGRAM, IN A SANDBOX (cutbox-door.mjs). By AI agents, Wed Nov 11 2026. No macro, syntax, notation, axiom, sorry.
-/
import Derived.Test.YtlagkhlolphmdaaDoorRows
import GoSem.ClaimSeven
namespace Go.Proofs.YtlagkhlolphmdaaDoor
namespace Rows

/-- THE TIED CARD OF 'dendronlaw25.TrimScales'. -/
def trimScalesCard : Claim7 := { stood := { row := trimScalesRow, standIns := [], harness := (true, "dbe7681bdf4a9c97e55eb37191bf715904bb7035573aed4cc522f97417c0b06e"), looks := false }, kinds := [], alts := [], laidByText := true, laidKinds := [.data], laidTests := true, laidLooks := .later }
def TrimScalesCardSaid : Prop := Claim7.holds Tryd.pinned (.plain (OpenSpec.ofChange trimScalesSpec)) trimScalesCard

/-- THE SECOND FORM's CARD OF 'dendronlaw25.TrimScales'. -/
def trimScalesUptoCard : Claim7 := { stood := { row := trimScalesUptoRow, standIns := [], harness := (true, "dbe7681bdf4a9c97e55eb37191bf715904bb7035573aed4cc522f97417c0b06e"), looks := false }, kinds := [], alts := [], laidByText := true, laidKinds := [.data], laidTests := true, laidLooks := .later }
def TrimScalesUptoCardSaid : Prop := Claim7.holds Tryd.pinned (.plain (OpenSpec.upto trimScalesSpec)) trimScalesUptoCard
end Rows
end Go.Proofs.YtlagkhlolphmdaaDoor
