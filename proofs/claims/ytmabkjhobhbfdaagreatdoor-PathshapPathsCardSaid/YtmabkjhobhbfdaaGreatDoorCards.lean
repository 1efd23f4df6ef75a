/-
  DERIVED. GIVEN WITH THE SEED: THE CARDS: each row of YtmabkjhobhbfdaaGreatDoorRows.lean that lists a variable, with what it lists TIED to the program's text (the seventh form; the later family's looks); each row that meets fmt, with fmt's text TOLD by the authors' own Lean function (tested against real Go, not proved from fmt's source: count such statements apart). THE CARD IS WHAT COUNTS. Prove the row's statement (the work); the ties are given (YtmabkjhobhbfdaaGreatDoorTie.lean); close each card by the builder's one call (the guide's Derived/Test/ToyasCard.lean, 'card_holds'). Laid BY PROGRAM, IN A SANDBOX (cutbox-door.mjs). By AI agents, Wed Nov 11 2026. No macro, syntax, notation, axiom, sorry.
-/
import Derived.Test.YtmabkjhobhbfdaaGreatDoorRows
import GoSem.ClaimSeven
namespace Go.Proofs.YtmabkjhobhbfdaaGreatDoor
namespace Rows

/-- THE TIED CARD OF 'dendronlaw15.PathshapPaths'. -/
def pathshapPathsCard : Claim7 := { stood := { row := pathshapPathsRow, standIns := [], harness := (true, "5dfb96cca3e405d4f07bf7d9eb38826ebdf022b84dfeae43dc11c744321ad2ae"), looks := false }, kinds := [], alts := [], laidByText := true, laidKinds := [.data], laidTests := true, laidLooks := .later }
def PathshapPathsCardSaid : Prop := Claim7.holds Tryz.pinned (.plain (OpenSpec.ofChange pathshapPathsSpec)) pathshapPathsCard

/-- THE TIED CARD OF 'dendronlaw15.PathshapSums'. -/
def pathshapSumsCard : Claim7 := { stood := { row := pathshapSumsRow, standIns := [], harness := (true, "5dfb96cca3e405d4f07bf7d9eb38826ebdf022b84dfeae43dc11c744321ad2ae"), looks := false }, kinds := [], alts := [], laidByText := true, laidKinds := [.data], laidTests := true, laidLooks := .later }
def PathshapSumsCardSaid : Prop := Claim7.holds Tryz.pinned (.plain (OpenSpec.ofChange pathshapSumsSpec)) pathshapSumsCard

/-- THE SECOND FORM's CARD OF 'dendronlaw15.PathshapPaths'. -/
def pathshapPathsUptoCard : Claim7 := { stood := { row := pathshapPathsUptoRow, standIns := [], harness := (true, "5dfb96cca3e405d4f07bf7d9eb38826ebdf022b84dfeae43dc11c744321ad2ae"), looks := false }, kinds := [], alts := [], laidByText := true, laidKinds := [.data], laidTests := true, laidLooks := .later }
def PathshapPathsUptoCardSaid : Prop := Claim7.holds Tryz.pinned (.plain (OpenSpec.upto pathshapPathsSpec)) pathshapPathsUptoCard

/-- THE SECOND FORM's CARD OF 'dendronlaw15.PathshapSums'. -/
def pathshapSumsUptoCard : Claim7 := { stood := { row := pathshapSumsUptoRow, standIns := [], harness := (true, "5dfb96cca3e405d4f07bf7d9eb38826ebdf022b84dfeae43dc11c744321ad2ae"), looks := false }, kinds := [], alts := [], laidByText := true, laidKinds := [.data], laidTests := true, laidLooks := .later }
def PathshapSumsUptoCardSaid : Prop := Claim7.holds Tryz.pinned (.plain (OpenSpec.upto pathshapSumsSpec)) pathshapSumsUptoCard
end Rows
end Go.Proofs.YtmabkjhobhbfdaaGreatDoor
