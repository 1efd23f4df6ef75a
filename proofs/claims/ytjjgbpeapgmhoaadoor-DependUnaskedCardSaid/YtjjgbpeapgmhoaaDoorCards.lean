/-
  DERIVED. GIVEN WITH THE SEED: THE CARDS: each row of YtjjgbpeapgmhoaaDoorRows.lean that lists a variable, with what it lists TIED to the program's text (the seventh form; the later family's looks); each row that meets fmt, with fmt's text TOLD by the authors' own Lean function (tested against real Go, not proved from fmt's source: count such statements apart). THE CARD IS WHAT COUNTS. Prove the row's statement (the work); the ties are given (YtjjgbpeapgmhoaaDoorTie.lean); close each card by the builder's one call (the guide's Derived/Test/ToyasCard.lean, 'card_holds'). Laid BY PROGRAM, IN A SANDBOX (cutbox-door.mjs). By AI agents, Wed Nov 11 2026. No macro, syntax, notation, axiom, sorry.
-/
import Derived.Test.YtjjgbpeapgmhoaaDoorRows
import GoSem.ClaimSeven
namespace Go.Proofs.YtjjgbpeapgmhoaaDoor
namespace Rows

/-- THE TIED CARD OF 'dendronlaw12.SaabasAdds'. -/
def saabasAddsCard : Claim7 := { stood := { row := saabasAddsRow, standIns := [], harness := (true, "f168e8606f4572227689285330277c0a6afe9d5e4c8b650b8f25cfa51b877d29"), looks := false }, kinds := [], alts := [], laidByText := true, laidKinds := [.data], laidTests := true, laidLooks := .later }
def SaabasAddsCardSaid : Prop := Claim7.holds Tryd.pinned (.plain (OpenSpec.ofChange saabasAddsSpec)) saabasAddsCard

/-- THE TIED CARD OF 'dendronlaw13.DependUnasked'. -/
def dependUnaskedCard : Claim7 := { stood := { row := dependUnaskedRow, standIns := [], harness := (true, "f168e8606f4572227689285330277c0a6afe9d5e4c8b650b8f25cfa51b877d29"), looks := false }, kinds := [], alts := [], laidByText := true, laidKinds := [.data], laidTests := true, laidLooks := .later }
def DependUnaskedCardSaid : Prop := Claim7.holds Tryd.pinned (.plain (OpenSpec.ofChange dependUnaskedSpec)) dependUnaskedCard

/-- THE TIED CARD OF 'dendronlaw25.TrimScales'. -/
def trimScalesCard : Claim7 := { stood := { row := trimScalesRow, standIns := [], harness := (true, "f168e8606f4572227689285330277c0a6afe9d5e4c8b650b8f25cfa51b877d29"), looks := false }, kinds := [], alts := [], laidByText := true, laidKinds := [.data], laidTests := true, laidLooks := .later }
def TrimScalesCardSaid : Prop := Claim7.holds Tryd.pinned (.plain (OpenSpec.ofChange trimScalesSpec)) trimScalesCard

/-- THE TIED CARD OF 'dendronlaw18.InteractMeets'. -/
def interactMeetsCard : Claim7 := { stood := { row := interactMeetsRow, standIns := [], harness := (true, "f168e8606f4572227689285330277c0a6afe9d5e4c8b650b8f25cfa51b877d29"), looks := false }, kinds := [], alts := [], laidByText := true, laidKinds := [.data], laidTests := true, laidLooks := .later }
def InteractMeetsCardSaid : Prop := Claim7.holds Tryd.pinned (.plain (OpenSpec.ofChange interactMeetsSpec)) interactMeetsCard

/-- THE TIED CARD OF 'dendronlaw15.PathshapNobody'. -/
def pathshapNobodyCard : Claim7 := { stood := { row := pathshapNobodyRow, standIns := [], harness := (true, "f168e8606f4572227689285330277c0a6afe9d5e4c8b650b8f25cfa51b877d29"), looks := false }, kinds := [], alts := [], laidByText := true, laidKinds := [.data], laidTests := true, laidLooks := .later }
def PathshapNobodyCardSaid : Prop := Claim7.holds Tryd.pinned (.plain (OpenSpec.ofChange pathshapNobodySpec)) pathshapNobodyCard

/-- THE SECOND FORM's CARD OF 'dendronlaw12.SaabasAdds'. -/
def saabasAddsUptoCard : Claim7 := { stood := { row := saabasAddsUptoRow, standIns := [], harness := (true, "f168e8606f4572227689285330277c0a6afe9d5e4c8b650b8f25cfa51b877d29"), looks := false }, kinds := [], alts := [], laidByText := true, laidKinds := [.data], laidTests := true, laidLooks := .later }
def SaabasAddsUptoCardSaid : Prop := Claim7.holds Tryd.pinned (.plain (OpenSpec.upto saabasAddsSpec)) saabasAddsUptoCard

/-- THE SECOND FORM's CARD OF 'dendronlaw13.DependUnasked'. -/
def dependUnaskedUptoCard : Claim7 := { stood := { row := dependUnaskedUptoRow, standIns := [], harness := (true, "f168e8606f4572227689285330277c0a6afe9d5e4c8b650b8f25cfa51b877d29"), looks := false }, kinds := [], alts := [], laidByText := true, laidKinds := [.data], laidTests := true, laidLooks := .later }
def DependUnaskedUptoCardSaid : Prop := Claim7.holds Tryd.pinned (.plain (OpenSpec.upto dependUnaskedSpec)) dependUnaskedUptoCard

/-- THE SECOND FORM's CARD OF 'dendronlaw25.TrimScales'. -/
def trimScalesUptoCard : Claim7 := { stood := { row := trimScalesUptoRow, standIns := [], harness := (true, "f168e8606f4572227689285330277c0a6afe9d5e4c8b650b8f25cfa51b877d29"), looks := false }, kinds := [], alts := [], laidByText := true, laidKinds := [.data], laidTests := true, laidLooks := .later }
def TrimScalesUptoCardSaid : Prop := Claim7.holds Tryd.pinned (.plain (OpenSpec.upto trimScalesSpec)) trimScalesUptoCard

/-- THE SECOND FORM's CARD OF 'dendronlaw18.InteractMeets'. -/
def interactMeetsUptoCard : Claim7 := { stood := { row := interactMeetsUptoRow, standIns := [], harness := (true, "f168e8606f4572227689285330277c0a6afe9d5e4c8b650b8f25cfa51b877d29"), looks := false }, kinds := [], alts := [], laidByText := true, laidKinds := [.data], laidTests := true, laidLooks := .later }
def InteractMeetsUptoCardSaid : Prop := Claim7.holds Tryd.pinned (.plain (OpenSpec.upto interactMeetsSpec)) interactMeetsUptoCard

/-- THE SECOND FORM's CARD OF 'dendronlaw15.PathshapNobody'. -/
def pathshapNobodyUptoCard : Claim7 := { stood := { row := pathshapNobodyUptoRow, standIns := [], harness := (true, "f168e8606f4572227689285330277c0a6afe9d5e4c8b650b8f25cfa51b877d29"), looks := false }, kinds := [], alts := [], laidByText := true, laidKinds := [.data], laidTests := true, laidLooks := .later }
def PathshapNobodyUptoCardSaid : Prop := Claim7.holds Tryd.pinned (.plain (OpenSpec.upto pathshapNobodySpec)) pathshapNobodyUptoCard
end Rows
end Go.Proofs.YtjjgbpeapgmhoaaDoor
