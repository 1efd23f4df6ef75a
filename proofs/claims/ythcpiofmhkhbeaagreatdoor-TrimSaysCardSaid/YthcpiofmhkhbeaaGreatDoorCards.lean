/-
  DERIVED. GIVEN WITH THE SEED: THE CARDS: each row of YthcpiofmhkhbeaaGreatDoorRows.lean that lists a variable, with what it lists TIED to the program's text (the seventh form; the later family's looks); each row that meets fmt, with fmt's text TOLD by the authors' own Lean function (tested against real Go, not proved from fmt's source: count such statements apart). THE CARD IS WHAT COUNTS. Prove the row's statement (the work); the ties are given (YthcpiofmhkhbeaaGreatDoorTie.lean); close each card by the builder's one call (the guide's Derived/Test/ToyasCard.lean, 'card_holds'). Laid BY PROGRAM, IN A SANDBOX (cutbox-door.mjs). By AI agents, Wed Nov 11 2026. No macro, syntax, notation, axiom, sorry.
-/
import Derived.Test.YthcpiofmhkhbeaaGreatDoorRows
import GoSem.ClaimSeven
namespace Go.Proofs.YthcpiofmhkhbeaaGreatDoor
namespace Rows

/-- THE TIED CARD OF 'dendronlaw15.PathshapTrees'. -/
def pathshapTreesCard : Claim7 := { stood := { row := pathshapTreesRow, standIns := [], harness := (true, "4f89b546c58981b2b2c8178bc66b36b2befea42e9e44b484e34dad09b785ed0c"), looks := false }, kinds := [], alts := [], laidByText := true, laidKinds := [.data], laidTests := true, laidLooks := .later }
def PathshapTreesCardSaid : Prop := Claim7.holds Tryz.pinned (.plain (OpenSpec.ofChange pathshapTreesSpec)) pathshapTreesCard

/-- THE TIED CARD OF 'dendronlaw27.RankMeans'. -/
def rankMeansCard : Claim7 := { stood := { row := rankMeansRow, standIns := [], harness := (true, "4f89b546c58981b2b2c8178bc66b36b2befea42e9e44b484e34dad09b785ed0c"), looks := false }, kinds := [], alts := [], laidByText := true, laidKinds := [.data], laidTests := true, laidLooks := .later }
def RankMeansCardSaid : Prop := Claim7.holds Tryz.pinned (.plain (OpenSpec.ofChange rankMeansSpec)) rankMeansCard

/-- THE TIED CARD OF 'dendronlaw25.TrimSays'. -/
def trimSaysCard : Claim7 := { stood := { row := trimSaysRow, standIns := [], harness := (true, "4f89b546c58981b2b2c8178bc66b36b2befea42e9e44b484e34dad09b785ed0c"), looks := false }, kinds := [], alts := [], laidByText := true, laidKinds := [.data], laidTests := true, laidLooks := .later }
def TrimSaysCardSaid : Prop := Claim7.holds Tryz.pinned (.plain (OpenSpec.ofChange trimSaysSpec)) trimSaysCard

/-- THE TIED CARD OF 'dendronlaw25.TrimTurns'. -/
def trimTurnsCard : Claim7 := { stood := { row := trimTurnsRow, standIns := [], harness := (true, "4f89b546c58981b2b2c8178bc66b36b2befea42e9e44b484e34dad09b785ed0c"), looks := false }, kinds := [], alts := [], laidByText := true, laidKinds := [.data], laidTests := true, laidLooks := .later }
def TrimTurnsCardSaid : Prop := Claim7.holds Tryz.pinned (.plain (OpenSpec.ofChange trimTurnsSpec)) trimTurnsCard

/-- THE TIED CARD OF 'dendronlaw18.InteractPairs'. -/
def interactPairsCard : Claim7 := { stood := { row := interactPairsRow, standIns := [], harness := (true, "4f89b546c58981b2b2c8178bc66b36b2befea42e9e44b484e34dad09b785ed0c"), looks := false }, kinds := [], alts := [], laidByText := true, laidKinds := [.data], laidTests := true, laidLooks := .later }
def InteractPairsCardSaid : Prop := Claim7.holds Tryz.pinned (.plain (OpenSpec.ofChange interactPairsSpec)) interactPairsCard

/-- THE TIED CARD OF 'dendronlaw18.InteractStrongest'. -/
def interactStrongestCard : Claim7 := { stood := { row := interactStrongestRow, standIns := [], harness := (true, "4f89b546c58981b2b2c8178bc66b36b2befea42e9e44b484e34dad09b785ed0c"), looks := false }, kinds := [], alts := [], laidByText := true, laidKinds := [.data], laidTests := true, laidLooks := .later }
def InteractStrongestCardSaid : Prop := Claim7.holds Tryz.pinned (.plain (OpenSpec.ofChange interactStrongestSpec)) interactStrongestCard

/-- THE TIED CARD OF 'dendronlaw18.InteractSums'. -/
def interactSumsCard : Claim7 := { stood := { row := interactSumsRow, standIns := [], harness := (true, "4f89b546c58981b2b2c8178bc66b36b2befea42e9e44b484e34dad09b785ed0c"), looks := false }, kinds := [], alts := [], laidByText := true, laidKinds := [.data], laidTests := true, laidLooks := .later }
def InteractSumsCardSaid : Prop := Claim7.holds Tryz.pinned (.plain (OpenSpec.ofChange interactSumsSpec)) interactSumsCard

/-- THE SECOND FORM's CARD OF 'dendronlaw15.PathshapTrees'. -/
def pathshapTreesUptoCard : Claim7 := { stood := { row := pathshapTreesUptoRow, standIns := [], harness := (true, "4f89b546c58981b2b2c8178bc66b36b2befea42e9e44b484e34dad09b785ed0c"), looks := false }, kinds := [], alts := [], laidByText := true, laidKinds := [.data], laidTests := true, laidLooks := .later }
def PathshapTreesUptoCardSaid : Prop := Claim7.holds Tryz.pinned (.plain (OpenSpec.upto pathshapTreesSpec)) pathshapTreesUptoCard

/-- THE SECOND FORM's CARD OF 'dendronlaw27.RankMeans'. -/
def rankMeansUptoCard : Claim7 := { stood := { row := rankMeansUptoRow, standIns := [], harness := (true, "4f89b546c58981b2b2c8178bc66b36b2befea42e9e44b484e34dad09b785ed0c"), looks := false }, kinds := [], alts := [], laidByText := true, laidKinds := [.data], laidTests := true, laidLooks := .later }
def RankMeansUptoCardSaid : Prop := Claim7.holds Tryz.pinned (.plain (OpenSpec.upto rankMeansSpec)) rankMeansUptoCard

/-- THE SECOND FORM's CARD OF 'dendronlaw25.TrimSays'. -/
def trimSaysUptoCard : Claim7 := { stood := { row := trimSaysUptoRow, standIns := [], harness := (true, "4f89b546c58981b2b2c8178bc66b36b2befea42e9e44b484e34dad09b785ed0c"), looks := false }, kinds := [], alts := [], laidByText := true, laidKinds := [.data], laidTests := true, laidLooks := .later }
def TrimSaysUptoCardSaid : Prop := Claim7.holds Tryz.pinned (.plain (OpenSpec.upto trimSaysSpec)) trimSaysUptoCard

/-- THE SECOND FORM's CARD OF 'dendronlaw25.TrimTurns'. -/
def trimTurnsUptoCard : Claim7 := { stood := { row := trimTurnsUptoRow, standIns := [], harness := (true, "4f89b546c58981b2b2c8178bc66b36b2befea42e9e44b484e34dad09b785ed0c"), looks := false }, kinds := [], alts := [], laidByText := true, laidKinds := [.data], laidTests := true, laidLooks := .later }
def TrimTurnsUptoCardSaid : Prop := Claim7.holds Tryz.pinned (.plain (OpenSpec.upto trimTurnsSpec)) trimTurnsUptoCard

/-- THE SECOND FORM's CARD OF 'dendronlaw18.InteractPairs'. -/
def interactPairsUptoCard : Claim7 := { stood := { row := interactPairsUptoRow, standIns := [], harness := (true, "4f89b546c58981b2b2c8178bc66b36b2befea42e9e44b484e34dad09b785ed0c"), looks := false }, kinds := [], alts := [], laidByText := true, laidKinds := [.data], laidTests := true, laidLooks := .later }
def InteractPairsUptoCardSaid : Prop := Claim7.holds Tryz.pinned (.plain (OpenSpec.upto interactPairsSpec)) interactPairsUptoCard

/-- THE SECOND FORM's CARD OF 'dendronlaw18.InteractStrongest'. -/
def interactStrongestUptoCard : Claim7 := { stood := { row := interactStrongestUptoRow, standIns := [], harness := (true, "4f89b546c58981b2b2c8178bc66b36b2befea42e9e44b484e34dad09b785ed0c"), looks := false }, kinds := [], alts := [], laidByText := true, laidKinds := [.data], laidTests := true, laidLooks := .later }
def InteractStrongestUptoCardSaid : Prop := Claim7.holds Tryz.pinned (.plain (OpenSpec.upto interactStrongestSpec)) interactStrongestUptoCard

/-- THE SECOND FORM's CARD OF 'dendronlaw18.InteractSums'. -/
def interactSumsUptoCard : Claim7 := { stood := { row := interactSumsUptoRow, standIns := [], harness := (true, "4f89b546c58981b2b2c8178bc66b36b2befea42e9e44b484e34dad09b785ed0c"), looks := false }, kinds := [], alts := [], laidByText := true, laidKinds := [.data], laidTests := true, laidLooks := .later }
def InteractSumsUptoCardSaid : Prop := Claim7.holds Tryz.pinned (.plain (OpenSpec.upto interactSumsSpec)) interactSumsUptoCard
end Rows
end Go.Proofs.YthcpiofmhkhbeaaGreatDoor
