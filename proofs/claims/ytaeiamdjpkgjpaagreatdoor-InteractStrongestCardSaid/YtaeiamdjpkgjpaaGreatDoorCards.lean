/-
  DERIVED. GIVEN WITH THE SEED: THE CARDS: each row of YtaeiamdjpkgjpaaGreatDoorRows.lean that lists a variable, with what it lists TIED to the program's text (the seventh form; the later family's looks); each row that meets fmt, with fmt's text TOLD by the authors' own Lean function (tested against real Go, not proved from fmt's source: count such statements apart). THE CARD IS WHAT COUNTS. Prove the row's statement (the work); the ties are given (YtaeiamdjpkgjpaaGreatDoorTie.lean); close each card by the builder's one call (the guide's Derived/Test/ToyasCard.lean, 'card_holds'). Laid BY PROGRAM, IN A SANDBOX (cutbox-door.mjs). By AI agents, Wed Nov 11 2026. No macro, syntax, notation, axiom, sorry.
-/
import Derived.Test.YtaeiamdjpkgjpaaGreatDoorRows
import GoSem.ClaimSeven
namespace Go.Proofs.YtaeiamdjpkgjpaaGreatDoor
namespace Rows

/-- THE TIED CARD OF 'dendronlaw18.InteractPairs'. -/
def interactPairsCard : Claim7 := { stood := { row := interactPairsRow, standIns := [], harness := (true, "0b4be581011ba8dca905b72672c09e993d67bbb60b49bf7ef4bd5a6bbcb49704"), looks := false }, kinds := [], alts := [], laidByText := true, laidKinds := [.data], laidTests := true, laidLooks := .later }
def InteractPairsCardSaid : Prop := Claim7.holds Tryz.pinned (.plain (OpenSpec.ofChange interactPairsSpec)) interactPairsCard

/-- THE TIED CARD OF 'dendronlaw18.InteractStrongest'. -/
def interactStrongestCard : Claim7 := { stood := { row := interactStrongestRow, standIns := [], harness := (true, "0b4be581011ba8dca905b72672c09e993d67bbb60b49bf7ef4bd5a6bbcb49704"), looks := false }, kinds := [], alts := [], laidByText := true, laidKinds := [.data], laidTests := true, laidLooks := .later }
def InteractStrongestCardSaid : Prop := Claim7.holds Tryz.pinned (.plain (OpenSpec.ofChange interactStrongestSpec)) interactStrongestCard

/-- THE TIED CARD OF 'dendronlaw18.InteractSums'. -/
def interactSumsCard : Claim7 := { stood := { row := interactSumsRow, standIns := [], harness := (true, "0b4be581011ba8dca905b72672c09e993d67bbb60b49bf7ef4bd5a6bbcb49704"), looks := false }, kinds := [], alts := [], laidByText := true, laidKinds := [.data], laidTests := true, laidLooks := .later }
def InteractSumsCardSaid : Prop := Claim7.holds Tryz.pinned (.plain (OpenSpec.ofChange interactSumsSpec)) interactSumsCard

/-- THE SECOND FORM's CARD OF 'dendronlaw18.InteractPairs'. -/
def interactPairsUptoCard : Claim7 := { stood := { row := interactPairsUptoRow, standIns := [], harness := (true, "0b4be581011ba8dca905b72672c09e993d67bbb60b49bf7ef4bd5a6bbcb49704"), looks := false }, kinds := [], alts := [], laidByText := true, laidKinds := [.data], laidTests := true, laidLooks := .later }
def InteractPairsUptoCardSaid : Prop := Claim7.holds Tryz.pinned (.plain (OpenSpec.upto interactPairsSpec)) interactPairsUptoCard

/-- THE SECOND FORM's CARD OF 'dendronlaw18.InteractStrongest'. -/
def interactStrongestUptoCard : Claim7 := { stood := { row := interactStrongestUptoRow, standIns := [], harness := (true, "0b4be581011ba8dca905b72672c09e993d67bbb60b49bf7ef4bd5a6bbcb49704"), looks := false }, kinds := [], alts := [], laidByText := true, laidKinds := [.data], laidTests := true, laidLooks := .later }
def InteractStrongestUptoCardSaid : Prop := Claim7.holds Tryz.pinned (.plain (OpenSpec.upto interactStrongestSpec)) interactStrongestUptoCard

/-- THE SECOND FORM's CARD OF 'dendronlaw18.InteractSums'. -/
def interactSumsUptoCard : Claim7 := { stood := { row := interactSumsUptoRow, standIns := [], harness := (true, "0b4be581011ba8dca905b72672c09e993d67bbb60b49bf7ef4bd5a6bbcb49704"), looks := false }, kinds := [], alts := [], laidByText := true, laidKinds := [.data], laidTests := true, laidLooks := .later }
def InteractSumsUptoCardSaid : Prop := Claim7.holds Tryz.pinned (.plain (OpenSpec.upto interactSumsSpec)) interactSumsUptoCard
end Rows
end Go.Proofs.YtaeiamdjpkgjpaaGreatDoor
