/-
  DERIVED. GIVEN WITH THE SEED: THE CARDS: each row of YtpjgaieoijpagaaDoorRows.lean that lists a variable, with what it lists TIED to the program's text (the seventh form; the later family's looks); each row that meets fmt, with fmt's text TOLD by the authors' own Lean function (tested against real Go, not proved from fmt's source: count such statements apart). THE CARD IS WHAT COUNTS. Prove the row's statement (the work); the ties are given (YtpjgaieoijpagaaDoorTie.lean); close each card by the builder's one call (the guide's Derived/Test/ToyasCard.lean, 'card_holds'). Laid BY PROGRAM, IN A SANDBOX (cutbox-door.mjs). By AI agents, Wed Nov 11 2026. No macro, syntax, notation, axiom, sorry.
-/
import Derived.Test.YtpjgaieoijpagaaDoorRows
import GoSem.ClaimSeven
namespace Go.Proofs.YtpjgaieoijpagaaDoor
namespace Rows

/-- THE TIED CARD OF 'dendronlaw25.TrimMany'. -/
def trimManyCard : Claim7 := { stood := { row := trimManyRow, standIns := [], harness := (true, "ab206ba2a1d48fa4cc9554f6d063a1f3504c0b3b530864a936db6ff97db4c2b7"), looks := false }, kinds := [], alts := [], laidByText := true, laidKinds := [.data], laidTests := true, laidLooks := .later }
def TrimManyCardSaid : Prop := Claim7.holds Tryd.pinned (.plain (OpenSpec.ofChange trimManySpec)) trimManyCard

/-- THE TIED CARD OF 'dendronlaw25.TrimHeads'. -/
def trimHeadsCard : Claim7 := { stood := { row := trimHeadsRow, standIns := [], harness := (true, "ab206ba2a1d48fa4cc9554f6d063a1f3504c0b3b530864a936db6ff97db4c2b7"), looks := false }, kinds := [], alts := [], laidByText := true, laidKinds := [.data], laidTests := true, laidLooks := .later }
def TrimHeadsCardSaid : Prop := Claim7.holds Tryd.pinned (.plain (OpenSpec.ofChange trimHeadsSpec)) trimHeadsCard

/-- THE TIED CARD OF 'dendronlaw25.TrimJoins'. -/
def trimJoinsCard : Claim7 := { stood := { row := trimJoinsRow, standIns := [], harness := (true, "ab206ba2a1d48fa4cc9554f6d063a1f3504c0b3b530864a936db6ff97db4c2b7"), looks := false }, kinds := [], alts := [], laidByText := true, laidKinds := [.data], laidTests := true, laidLooks := .later }
def TrimJoinsCardSaid : Prop := Claim7.holds Tryd.pinned (.plain (OpenSpec.ofChange trimJoinsSpec)) trimJoinsCard

/-- THE TIED CARD OF 'dendronlaw25.TrimScales'. -/
def trimScalesCard : Claim7 := { stood := { row := trimScalesRow, standIns := [], harness := (true, "ab206ba2a1d48fa4cc9554f6d063a1f3504c0b3b530864a936db6ff97db4c2b7"), looks := false }, kinds := [], alts := [], laidByText := true, laidKinds := [.data], laidTests := true, laidLooks := .later }
def TrimScalesCardSaid : Prop := Claim7.holds Tryd.pinned (.plain (OpenSpec.ofChange trimScalesSpec)) trimScalesCard

/-- THE SECOND FORM's CARD OF 'dendronlaw25.TrimMany'. -/
def trimManyUptoCard : Claim7 := { stood := { row := trimManyUptoRow, standIns := [], harness := (true, "ab206ba2a1d48fa4cc9554f6d063a1f3504c0b3b530864a936db6ff97db4c2b7"), looks := false }, kinds := [], alts := [], laidByText := true, laidKinds := [.data], laidTests := true, laidLooks := .later }
def TrimManyUptoCardSaid : Prop := Claim7.holds Tryd.pinned (.plain (OpenSpec.upto trimManySpec)) trimManyUptoCard

/-- THE SECOND FORM's CARD OF 'dendronlaw25.TrimHeads'. -/
def trimHeadsUptoCard : Claim7 := { stood := { row := trimHeadsUptoRow, standIns := [], harness := (true, "ab206ba2a1d48fa4cc9554f6d063a1f3504c0b3b530864a936db6ff97db4c2b7"), looks := false }, kinds := [], alts := [], laidByText := true, laidKinds := [.data], laidTests := true, laidLooks := .later }
def TrimHeadsUptoCardSaid : Prop := Claim7.holds Tryd.pinned (.plain (OpenSpec.upto trimHeadsSpec)) trimHeadsUptoCard

/-- THE SECOND FORM's CARD OF 'dendronlaw25.TrimJoins'. -/
def trimJoinsUptoCard : Claim7 := { stood := { row := trimJoinsUptoRow, standIns := [], harness := (true, "ab206ba2a1d48fa4cc9554f6d063a1f3504c0b3b530864a936db6ff97db4c2b7"), looks := false }, kinds := [], alts := [], laidByText := true, laidKinds := [.data], laidTests := true, laidLooks := .later }
def TrimJoinsUptoCardSaid : Prop := Claim7.holds Tryd.pinned (.plain (OpenSpec.upto trimJoinsSpec)) trimJoinsUptoCard

/-- THE SECOND FORM's CARD OF 'dendronlaw25.TrimScales'. -/
def trimScalesUptoCard : Claim7 := { stood := { row := trimScalesUptoRow, standIns := [], harness := (true, "ab206ba2a1d48fa4cc9554f6d063a1f3504c0b3b530864a936db6ff97db4c2b7"), looks := false }, kinds := [], alts := [], laidByText := true, laidKinds := [.data], laidTests := true, laidLooks := .later }
def TrimScalesUptoCardSaid : Prop := Claim7.holds Tryd.pinned (.plain (OpenSpec.upto trimScalesSpec)) trimScalesUptoCard
end Rows
end Go.Proofs.YtpjgaieoijpagaaDoor
