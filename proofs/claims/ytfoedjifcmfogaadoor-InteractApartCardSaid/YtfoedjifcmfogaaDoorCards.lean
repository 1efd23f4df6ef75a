/-
  DERIVED. GIVEN WITH THE SEED: THE CARDS: each row of YtfoedjifcmfogaaDoorRows.lean that lists a variable, with what it lists TIED to the program's text (the seventh form; the later family's looks); each row that meets fmt, with fmt's text TOLD by the authors' own Lean function (tested against real Go, not proved from fmt's source: count such statements apart). THE CARD IS WHAT COUNTS. Prove the row's statement (the work); the ties are given (YtfoedjifcmfogaaDoorTie.lean); close each card by the builder's one call (the guide's Derived/Test/ToyasCard.lean, 'card_holds'). Laid BY PROGRAM, IN A SANDBOX (cutbox-door.mjs). By AI agents, Wed Nov 11 2026. No macro, syntax, notation, axiom, sorry.
-/
import Derived.Test.YtfoedjifcmfogaaDoorRows
import GoSem.ClaimSeven
namespace Go.Proofs.YtfoedjifcmfogaaDoor
namespace Rows

/-- THE TIED CARD OF 'dendronlaw18.InteractMeets'. -/
def interactMeetsCard : Claim7 := { stood := { row := interactMeetsRow, standIns := [], harness := (true, "1ac1ecffb7edc5d5bb799bf93ecf904f9fe866306586dd7ebf5ed8ac200717f2"), looks := false }, kinds := [], alts := [], laidByText := true, laidKinds := [.data], laidTests := true, laidLooks := .later }
def InteractMeetsCardSaid : Prop := Claim7.holds Tryd.pinned (.plain (OpenSpec.ofChange interactMeetsSpec)) interactMeetsCard

/-- THE TIED CARD OF 'dendronlaw18.InteractApart'. -/
def interactApartCard : Claim7 := { stood := { row := interactApartRow, standIns := [], harness := (true, "1ac1ecffb7edc5d5bb799bf93ecf904f9fe866306586dd7ebf5ed8ac200717f2"), looks := false }, kinds := [], alts := [], laidByText := true, laidKinds := [.data], laidTests := true, laidLooks := .later }
def InteractApartCardSaid : Prop := Claim7.holds Tryd.pinned (.plain (OpenSpec.ofChange interactApartSpec)) interactApartCard

/-- THE SECOND FORM's CARD OF 'dendronlaw18.InteractMeets'. -/
def interactMeetsUptoCard : Claim7 := { stood := { row := interactMeetsUptoRow, standIns := [], harness := (true, "1ac1ecffb7edc5d5bb799bf93ecf904f9fe866306586dd7ebf5ed8ac200717f2"), looks := false }, kinds := [], alts := [], laidByText := true, laidKinds := [.data], laidTests := true, laidLooks := .later }
def InteractMeetsUptoCardSaid : Prop := Claim7.holds Tryd.pinned (.plain (OpenSpec.upto interactMeetsSpec)) interactMeetsUptoCard

/-- THE SECOND FORM's CARD OF 'dendronlaw18.InteractApart'. -/
def interactApartUptoCard : Claim7 := { stood := { row := interactApartUptoRow, standIns := [], harness := (true, "1ac1ecffb7edc5d5bb799bf93ecf904f9fe866306586dd7ebf5ed8ac200717f2"), looks := false }, kinds := [], alts := [], laidByText := true, laidKinds := [.data], laidTests := true, laidLooks := .later }
def InteractApartUptoCardSaid : Prop := Claim7.holds Tryd.pinned (.plain (OpenSpec.upto interactApartSpec)) interactApartUptoCard
end Rows
end Go.Proofs.YtfoedjifcmfogaaDoor
