/-
  DERIVED. GIVEN WITH THE SEED: THE CARDS: each row of YtongppphgbkckaaDoorRows.lean that lists a variable, with what it lists TIED to the program's text (the seventh form; the later family's looks); each row that meets fmt, with fmt's text TOLD by the authors' own Lean function (tested against real Go, not proved from fmt's source: count such statements apart). THE CARD IS WHAT COUNTS. Prove the row's statement (the work); the ties are given (YtongppphgbkckaaDoorTie.lean); close each card by the builder's one call (the guide's Derived/Test/ToyasCard.lean, 'card_holds'). Laid BY PROGRAM, IN A SANDBOX (cutbox-door.mjs). By AI agents, Wed Nov 11 2026. No macro, syntax, notation, axiom, sorry.
-/
import Derived.Test.YtongppphgbkckaaDoorRows
import GoSem.ClaimSeven
namespace Go.Proofs.YtongppphgbkckaaDoor
namespace Rows

/-- THE TIED CARD OF 'dendronlaw11.ExpectReaches'. -/
def expectReachesCard : Claim7 := { stood := { row := expectReachesRow, standIns := [], harness := (true, "97a8e68a2accc1bd20d8b0884d793bc2ccde42ce551f95988c7cf20d162f28aa"), looks := false }, kinds := [], alts := [], laidByText := true, laidKinds := [.data], laidTests := true, laidLooks := .later }
def ExpectReachesCardSaid : Prop := Claim7.holds Tryd.pinned (.plain (OpenSpec.ofChange expectReachesSpec)) expectReachesCard

/-- THE TIED CARD OF 'dendronlaw12.SaabasOrders'. -/
def saabasOrdersCard : Claim7 := { stood := { row := saabasOrdersRow, standIns := [], harness := (true, "97a8e68a2accc1bd20d8b0884d793bc2ccde42ce551f95988c7cf20d162f28aa"), looks := false }, kinds := [], alts := [], laidByText := true, laidKinds := [.data], laidTests := true, laidLooks := .later }
def SaabasOrdersCardSaid : Prop := Claim7.holds Tryd.pinned (.plain (OpenSpec.ofChange saabasOrdersSpec)) saabasOrdersCard

/-- THE TIED CARD OF 'dendronlaw12.SaabasAdds'. -/
def saabasAddsCard : Claim7 := { stood := { row := saabasAddsRow, standIns := [], harness := (true, "97a8e68a2accc1bd20d8b0884d793bc2ccde42ce551f95988c7cf20d162f28aa"), looks := false }, kinds := [], alts := [], laidByText := true, laidKinds := [.data], laidTests := true, laidLooks := .later }
def SaabasAddsCardSaid : Prop := Claim7.holds Tryd.pinned (.plain (OpenSpec.ofChange saabasAddsSpec)) saabasAddsCard

/-- THE TIED CARD OF 'dendronlaw13.DependRests'. -/
def dependRestsCard : Claim7 := { stood := { row := dependRestsRow, standIns := [], harness := (true, "97a8e68a2accc1bd20d8b0884d793bc2ccde42ce551f95988c7cf20d162f28aa"), looks := false }, kinds := [], alts := [], laidByText := true, laidKinds := [.data], laidTests := true, laidLooks := .later }
def DependRestsCardSaid : Prop := Claim7.holds Tryd.pinned (.plain (OpenSpec.ofChange dependRestsSpec)) dependRestsCard

/-- THE TIED CARD OF 'dendronlaw13.DependUnasked'. -/
def dependUnaskedCard : Claim7 := { stood := { row := dependUnaskedRow, standIns := [], harness := (true, "97a8e68a2accc1bd20d8b0884d793bc2ccde42ce551f95988c7cf20d162f28aa"), looks := false }, kinds := [], alts := [], laidByText := true, laidKinds := [.data], laidTests := true, laidLooks := .later }
def DependUnaskedCardSaid : Prop := Claim7.holds Tryd.pinned (.plain (OpenSpec.ofChange dependUnaskedSpec)) dependUnaskedCard

/-- THE SECOND FORM's CARD OF 'dendronlaw11.ExpectReaches'. -/
def expectReachesUptoCard : Claim7 := { stood := { row := expectReachesUptoRow, standIns := [], harness := (true, "97a8e68a2accc1bd20d8b0884d793bc2ccde42ce551f95988c7cf20d162f28aa"), looks := false }, kinds := [], alts := [], laidByText := true, laidKinds := [.data], laidTests := true, laidLooks := .later }
def ExpectReachesUptoCardSaid : Prop := Claim7.holds Tryd.pinned (.plain (OpenSpec.upto expectReachesSpec)) expectReachesUptoCard

/-- THE SECOND FORM's CARD OF 'dendronlaw12.SaabasOrders'. -/
def saabasOrdersUptoCard : Claim7 := { stood := { row := saabasOrdersUptoRow, standIns := [], harness := (true, "97a8e68a2accc1bd20d8b0884d793bc2ccde42ce551f95988c7cf20d162f28aa"), looks := false }, kinds := [], alts := [], laidByText := true, laidKinds := [.data], laidTests := true, laidLooks := .later }
def SaabasOrdersUptoCardSaid : Prop := Claim7.holds Tryd.pinned (.plain (OpenSpec.upto saabasOrdersSpec)) saabasOrdersUptoCard

/-- THE SECOND FORM's CARD OF 'dendronlaw12.SaabasAdds'. -/
def saabasAddsUptoCard : Claim7 := { stood := { row := saabasAddsUptoRow, standIns := [], harness := (true, "97a8e68a2accc1bd20d8b0884d793bc2ccde42ce551f95988c7cf20d162f28aa"), looks := false }, kinds := [], alts := [], laidByText := true, laidKinds := [.data], laidTests := true, laidLooks := .later }
def SaabasAddsUptoCardSaid : Prop := Claim7.holds Tryd.pinned (.plain (OpenSpec.upto saabasAddsSpec)) saabasAddsUptoCard

/-- THE SECOND FORM's CARD OF 'dendronlaw13.DependRests'. -/
def dependRestsUptoCard : Claim7 := { stood := { row := dependRestsUptoRow, standIns := [], harness := (true, "97a8e68a2accc1bd20d8b0884d793bc2ccde42ce551f95988c7cf20d162f28aa"), looks := false }, kinds := [], alts := [], laidByText := true, laidKinds := [.data], laidTests := true, laidLooks := .later }
def DependRestsUptoCardSaid : Prop := Claim7.holds Tryd.pinned (.plain (OpenSpec.upto dependRestsSpec)) dependRestsUptoCard

/-- THE SECOND FORM's CARD OF 'dendronlaw13.DependUnasked'. -/
def dependUnaskedUptoCard : Claim7 := { stood := { row := dependUnaskedUptoRow, standIns := [], harness := (true, "97a8e68a2accc1bd20d8b0884d793bc2ccde42ce551f95988c7cf20d162f28aa"), looks := false }, kinds := [], alts := [], laidByText := true, laidKinds := [.data], laidTests := true, laidLooks := .later }
def DependUnaskedUptoCardSaid : Prop := Claim7.holds Tryd.pinned (.plain (OpenSpec.upto dependUnaskedSpec)) dependUnaskedUptoCard
end Rows
end Go.Proofs.YtongppphgbkckaaDoor
