/-
  DERIVED. GIVEN WITH THE SEED: THE CARDS: each row of YtiefddjokkihdaaGreatDoorRows.lean that lists a variable, with what it lists TIED to the program's text (the seventh form; the later family's looks); each row that meets fmt, with fmt's text TOLD by the authors' own Lean function (tested against real Go, not proved from fmt's source: count such statements apart). THE CARD IS WHAT COUNTS. Prove the row's statement (the work); the ties are given (YtiefddjokkihdaaGreatDoorTie.lean); close each card by the builder's one call (the guide's Derived/Test/ToyasCard.lean, 'card_holds'). Laid BY PROGRAM, IN A SANDBOX (cutbox-door.mjs). By AI agents, Wed Nov 11 2026. No macro, syntax, notation, axiom, sorry.
-/
import Derived.Test.YtiefddjokkihdaaGreatDoorRows
import GoSem.ClaimSeven
namespace Go.Proofs.YtiefddjokkihdaaGreatDoor
namespace Rows

/-- THE TIED CARD OF 'dendronlaw18.InteractValues'. -/
def interactValuesCard : Claim7 := { stood := { row := interactValuesRow, standIns := [], harness := (true, "098f06d30a6f8775dcc117541b426b2f64e70a6aa93090471dbf85a5c590faea"), looks := false }, kinds := [], alts := [], laidByText := true, laidKinds := [.data], laidTests := true, laidLooks := .later }
def InteractValuesCardSaid : Prop := Claim7.holds Tryz.pinned (.plain (OpenSpec.ofChange interactValuesSpec)) interactValuesCard

/-- THE SECOND FORM's CARD OF 'dendronlaw18.InteractValues'. -/
def interactValuesUptoCard : Claim7 := { stood := { row := interactValuesUptoRow, standIns := [], harness := (true, "098f06d30a6f8775dcc117541b426b2f64e70a6aa93090471dbf85a5c590faea"), looks := false }, kinds := [], alts := [], laidByText := true, laidKinds := [.data], laidTests := true, laidLooks := .later }
def InteractValuesUptoCardSaid : Prop := Claim7.holds Tryz.pinned (.plain (OpenSpec.upto interactValuesSpec)) interactValuesUptoCard
end Rows
end Go.Proofs.YtiefddjokkihdaaGreatDoor
