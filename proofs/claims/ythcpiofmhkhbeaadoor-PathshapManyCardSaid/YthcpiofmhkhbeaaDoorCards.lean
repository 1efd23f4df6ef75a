/-
  DERIVED. GIVEN WITH THE SEED: THE CARDS: each row of YthcpiofmhkhbeaaDoorRows.lean that lists a variable, with what it lists TIED to the program's text (the seventh form; the later family's looks); each row that meets fmt, with fmt's text TOLD by the authors' own Lean function (tested against real Go, not proved from fmt's source: count such statements apart). THE CARD IS WHAT COUNTS. Prove the row's statement (the work); the ties are given (YthcpiofmhkhbeaaDoorTie.lean); close each card by the builder's one call (the guide's Derived/Test/ToyasCard.lean, 'card_holds'). Laid BY PROGRAM, IN A SANDBOX (cutbox-door.mjs). By AI agents, Wed Nov 11 2026. No macro, syntax, notation, axiom, sorry.
-/
import Derived.Test.YthcpiofmhkhbeaaDoorRows
import GoSem.ClaimSeven
namespace Go.Proofs.YthcpiofmhkhbeaaDoor
namespace Rows

/-- THE TIED CARD OF 'dendronlaw15.PathshapMany'. -/
def pathshapManyCard : Claim7 := { stood := { row := pathshapManyRow, standIns := [], harness := (true, "4515219d7ccfc38fe77f91d9c1dadc2c53c8e1f849e55a4f88b45d1307a4728c"), looks := false }, kinds := [], alts := [], laidByText := true, laidKinds := [.data], laidTests := true, laidLooks := .later }
def PathshapManyCardSaid : Prop := Claim7.holds Tryd.pinned (.plain (OpenSpec.ofChange pathshapManySpec)) pathshapManyCard

/-- THE TIED CARD OF 'dendronlaw15.PathshapAdds'. -/
def pathshapAddsCard : Claim7 := { stood := { row := pathshapAddsRow, standIns := [], harness := (true, "4515219d7ccfc38fe77f91d9c1dadc2c53c8e1f849e55a4f88b45d1307a4728c"), looks := false }, kinds := [], alts := [], laidByText := true, laidKinds := [.data], laidTests := true, laidLooks := .later }
def PathshapAddsCardSaid : Prop := Claim7.holds Tryd.pinned (.plain (OpenSpec.ofChange pathshapAddsSpec)) pathshapAddsCard

/-- THE TIED CARD OF 'dendronlaw18.InteractApart'. -/
def interactApartCard : Claim7 := { stood := { row := interactApartRow, standIns := [], harness := (true, "4515219d7ccfc38fe77f91d9c1dadc2c53c8e1f849e55a4f88b45d1307a4728c"), looks := false }, kinds := [], alts := [], laidByText := true, laidKinds := [.data], laidTests := true, laidLooks := .later }
def InteractApartCardSaid : Prop := Claim7.holds Tryd.pinned (.plain (OpenSpec.ofChange interactApartSpec)) interactApartCard

/-- THE SECOND FORM's CARD OF 'dendronlaw15.PathshapMany'. -/
def pathshapManyUptoCard : Claim7 := { stood := { row := pathshapManyUptoRow, standIns := [], harness := (true, "4515219d7ccfc38fe77f91d9c1dadc2c53c8e1f849e55a4f88b45d1307a4728c"), looks := false }, kinds := [], alts := [], laidByText := true, laidKinds := [.data], laidTests := true, laidLooks := .later }
def PathshapManyUptoCardSaid : Prop := Claim7.holds Tryd.pinned (.plain (OpenSpec.upto pathshapManySpec)) pathshapManyUptoCard

/-- THE SECOND FORM's CARD OF 'dendronlaw15.PathshapAdds'. -/
def pathshapAddsUptoCard : Claim7 := { stood := { row := pathshapAddsUptoRow, standIns := [], harness := (true, "4515219d7ccfc38fe77f91d9c1dadc2c53c8e1f849e55a4f88b45d1307a4728c"), looks := false }, kinds := [], alts := [], laidByText := true, laidKinds := [.data], laidTests := true, laidLooks := .later }
def PathshapAddsUptoCardSaid : Prop := Claim7.holds Tryd.pinned (.plain (OpenSpec.upto pathshapAddsSpec)) pathshapAddsUptoCard

/-- THE SECOND FORM's CARD OF 'dendronlaw18.InteractApart'. -/
def interactApartUptoCard : Claim7 := { stood := { row := interactApartUptoRow, standIns := [], harness := (true, "4515219d7ccfc38fe77f91d9c1dadc2c53c8e1f849e55a4f88b45d1307a4728c"), looks := false }, kinds := [], alts := [], laidByText := true, laidKinds := [.data], laidTests := true, laidLooks := .later }
def InteractApartUptoCardSaid : Prop := Claim7.holds Tryd.pinned (.plain (OpenSpec.upto interactApartSpec)) interactApartUptoCard
end Rows
end Go.Proofs.YthcpiofmhkhbeaaDoor
