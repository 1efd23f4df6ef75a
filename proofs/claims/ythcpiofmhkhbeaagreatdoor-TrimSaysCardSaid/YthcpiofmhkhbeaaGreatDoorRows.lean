/-
  NARROWER THAN 'FOR EVERY INPUT', by the rows' own cells (each row's printed sentence says how): PathshapTrees: laid · RankMeans: laid · TrimSays: laid · TrimTurns: laid · InteractPairs: laid · InteractStrongest: laid · InteractSums: laid.
  DERIVED. THE GIVEN ROWS OF THIS SEAT. 7 by the template 'for every input the law returns true; each argument reads behind the call as it read before'; 0 by the template 'total and deterministic' (their statements: YthcpiofmhkhbeaaGreatDoorTotals.lean).
  GIVEN WITH THE SEED: the statements are not yours to turn. If you find one false, say at which input.
  Laid BY PROGRAM, IN A SANDBOX (cutbox-rows.mjs): the forced cells as the released guide's own fill.sh prints them over the translation 2c2c848cbcb23edf… (all of the seat's roots in one cut). By AI agents, Wed Nov 11 2026. No macro, syntax, notation, axiom, sorry.
-/
import Derived.Test.YthcpiofmhkhbeaaGreatDoorChecked
import GoSem.Claim
import GoSem.ClaimJoined
import GoSem.ClaimMapViews
import Derived.JoinedTies
import Derived.KernelRfl
namespace Go.Proofs.YthcpiofmhkhbeaaGreatDoor
/- THE CELL 'sum', in the pinned program and in every row, IS THE sha256 OF THE DUMP (.gsa) THAT YthcpiofmhkhbeaaGreatDoorProg.lean LOADS. Nothing in Lean hashes anything: it is a label: what it is worth is what the hold of that sum in a sandbox is worth. -/
noncomputable def Tryz.pinned : Pinned := { name := "ythcpiofmhkhbeaagreatdoor", sum := "2c2c848cbcb23edf702205eb40c84da22f73e3aa5d169b74be9371ddef37bffc", checked := Tryz.checked }
namespace Rows
def none {H : Type} : Left H := { results := [], args := [] }

/- WHAT THE LISTED PACKAGE-LEVEL VARIABLES READ AS WHEN THE CALL BEGINS. Each datum BY PROGRAM (the guide's laid-datum.mjs) off the statement by which the dump's own 'gosem.cut.vars' lays the variable. In a bare row this is a premise. The card (YthcpiofmhkhbeaaGreatDoorCards.lean) ties it to the program's text. -/
def laid_math_bits_deBruijn64tab {H : Type} : DataW H := .agg [.lit (.int .u8 0), .lit (.int .u8 1), .lit (.int .u8 56), .lit (.int .u8 2), .lit (.int .u8 57), .lit (.int .u8 49), .lit (.int .u8 28), .lit (.int .u8 3), .lit (.int .u8 61), .lit (.int .u8 58), .lit (.int .u8 42), .lit (.int .u8 50), .lit (.int .u8 38), .lit (.int .u8 29), .lit (.int .u8 17), .lit (.int .u8 4), .lit (.int .u8 62), .lit (.int .u8 47), .lit (.int .u8 59), .lit (.int .u8 36), .lit (.int .u8 45), .lit (.int .u8 43), .lit (.int .u8 51), .lit (.int .u8 22), .lit (.int .u8 53), .lit (.int .u8 39), .lit (.int .u8 33), .lit (.int .u8 30), .lit (.int .u8 24), .lit (.int .u8 18), .lit (.int .u8 12), .lit (.int .u8 5), .lit (.int .u8 63), .lit (.int .u8 55), .lit (.int .u8 48), .lit (.int .u8 27), .lit (.int .u8 60), .lit (.int .u8 41), .lit (.int .u8 37), .lit (.int .u8 16), .lit (.int .u8 46), .lit (.int .u8 35), .lit (.int .u8 44), .lit (.int .u8 21), .lit (.int .u8 52), .lit (.int .u8 32), .lit (.int .u8 23), .lit (.int .u8 11), .lit (.int .u8 54), .lit (.int .u8 26), .lit (.int .u8 40), .lit (.int .u8 15), .lit (.int .u8 34), .lit (.int .u8 20), .lit (.int .u8 31), .lit (.int .u8 10), .lit (.int .u8 25), .lit (.int .u8 14), .lit (.int .u8 19), .lit (.int .u8 9), .lit (.int .u8 13), .lit (.int .u8 8), .lit (.int .u8 7), .lit (.int .u8 6)]

/-- 'dendronlaw15.PathshapTrees': WHATEVER THE INPUT: true; the input reads as it did. -/
def pathshapTreesSpec : ChangeSpec := { name := "pathshapTrees", fn := fun _ => fun
  | [d1, d2] => { results := [.lit (.bool true)], args := [d1, d2] }
  | _ => none }
def pathshapTreesRow : OpenClaim := { program := "ythcpiofmhkhbeaagreatdoor", sum := "2c2c848cbcb23edf702205eb40c84da22f73e3aa5d169b74be9371ddef37bffc", func := "dendron/dendronlaw15.PathshapTrees", spec := "pathshapTrees", named := ["math/bits.deBruijn64tab"], apart := false, laid := [("math/bits.deBruijn64tab", laid_math_bits_deBruijn64tab)] }
def PathshapTreesSaid : Prop := pathshapTreesRow.holds Tryz.pinned (OpenSpec.ofChange pathshapTreesSpec)

/-- ITS FALSE NEIGHBOUR: 'it returns false'. Refute it at one input. -/
def pathshapTreesWrong : ChangeSpec := { name := "pathshapTrees", fn := fun _ => fun
  | [d1, d2] => { results := [.lit (.bool false)], args := [d1, d2] }
  | _ => none }
def PathshapTreesWrongFalsely : Prop := pathshapTreesRow.holds Tryz.pinned (OpenSpec.ofChange pathshapTreesWrong)

/-- 'dendronlaw27.RankMeans': WHATEVER THE INPUT: true; the input reads as it did. -/
def rankMeansSpec : ChangeSpec := { name := "rankMeans", fn := fun _ => fun
  | [d1, d2] => { results := [.lit (.bool true)], args := [d1, d2] }
  | _ => none }
def rankMeansRow : OpenClaim := { program := "ythcpiofmhkhbeaagreatdoor", sum := "2c2c848cbcb23edf702205eb40c84da22f73e3aa5d169b74be9371ddef37bffc", func := "dendron/dendronlaw27.RankMeans", spec := "rankMeans", named := ["math/bits.deBruijn64tab"], apart := false, laid := [("math/bits.deBruijn64tab", laid_math_bits_deBruijn64tab)] }
def RankMeansSaid : Prop := rankMeansRow.holds Tryz.pinned (OpenSpec.ofChange rankMeansSpec)

/-- ITS FALSE NEIGHBOUR: 'it returns false'. Refute it at one input. -/
def rankMeansWrong : ChangeSpec := { name := "rankMeans", fn := fun _ => fun
  | [d1, d2] => { results := [.lit (.bool false)], args := [d1, d2] }
  | _ => none }
def RankMeansWrongFalsely : Prop := rankMeansRow.holds Tryz.pinned (OpenSpec.ofChange rankMeansWrong)

/-- 'dendronlaw25.TrimSays': WHATEVER THE INPUT: true; the input reads as it did. -/
def trimSaysSpec : ChangeSpec := { name := "trimSays", fn := fun _ => fun
  | [d1, d2, d3] => { results := [.lit (.bool true)], args := [d1, d2, d3] }
  | _ => none }
def trimSaysRow : OpenClaim := { program := "ythcpiofmhkhbeaagreatdoor", sum := "2c2c848cbcb23edf702205eb40c84da22f73e3aa5d169b74be9371ddef37bffc", func := "dendron/dendronlaw25.TrimSays", spec := "trimSays", unfollowed := true, recurses := true, named := ["math/bits.deBruijn64tab"], apart := false, laid := [("math/bits.deBruijn64tab", laid_math_bits_deBruijn64tab)] }
def TrimSaysSaid : Prop := trimSaysRow.holds Tryz.pinned (OpenSpec.ofChange trimSaysSpec)

/-- ITS FALSE NEIGHBOUR: 'it returns false'. Refute it at one input. -/
def trimSaysWrong : ChangeSpec := { name := "trimSays", fn := fun _ => fun
  | [d1, d2, d3] => { results := [.lit (.bool false)], args := [d1, d2, d3] }
  | _ => none }
def TrimSaysWrongFalsely : Prop := trimSaysRow.holds Tryz.pinned (OpenSpec.ofChange trimSaysWrong)

/-- 'dendronlaw25.TrimTurns': WHATEVER THE INPUT: true; the input reads as it did. -/
def trimTurnsSpec : ChangeSpec := { name := "trimTurns", fn := fun _ => fun
  | [d1, d2, d3] => { results := [.lit (.bool true)], args := [d1, d2, d3] }
  | _ => none }
def trimTurnsRow : OpenClaim := { program := "ythcpiofmhkhbeaagreatdoor", sum := "2c2c848cbcb23edf702205eb40c84da22f73e3aa5d169b74be9371ddef37bffc", func := "dendron/dendronlaw25.TrimTurns", spec := "trimTurns", unfollowed := true, recurses := true, named := ["math/bits.deBruijn64tab"], apart := false, laid := [("math/bits.deBruijn64tab", laid_math_bits_deBruijn64tab)] }
def TrimTurnsSaid : Prop := trimTurnsRow.holds Tryz.pinned (OpenSpec.ofChange trimTurnsSpec)

/-- ITS FALSE NEIGHBOUR: 'it returns false'. Refute it at one input. -/
def trimTurnsWrong : ChangeSpec := { name := "trimTurns", fn := fun _ => fun
  | [d1, d2, d3] => { results := [.lit (.bool false)], args := [d1, d2, d3] }
  | _ => none }
def TrimTurnsWrongFalsely : Prop := trimTurnsRow.holds Tryz.pinned (OpenSpec.ofChange trimTurnsWrong)

/-- 'dendronlaw18.InteractPairs': WHATEVER THE INPUT: true; the input reads as it did. -/
def interactPairsSpec : ChangeSpec := { name := "interactPairs", fn := fun _ => fun
  | [d1, d2, d3, d4] => { results := [.lit (.bool true)], args := [d1, d2, d3, d4] }
  | _ => none }
def interactPairsRow : OpenClaim := { program := "ythcpiofmhkhbeaagreatdoor", sum := "2c2c848cbcb23edf702205eb40c84da22f73e3aa5d169b74be9371ddef37bffc", func := "dendron/dendronlaw18.InteractPairs", spec := "interactPairs", named := ["math/bits.deBruijn64tab"], apart := false, laid := [("math/bits.deBruijn64tab", laid_math_bits_deBruijn64tab)] }
def InteractPairsSaid : Prop := interactPairsRow.holds Tryz.pinned (OpenSpec.ofChange interactPairsSpec)

/-- ITS FALSE NEIGHBOUR: 'it returns false'. Refute it at one input. -/
def interactPairsWrong : ChangeSpec := { name := "interactPairs", fn := fun _ => fun
  | [d1, d2, d3, d4] => { results := [.lit (.bool false)], args := [d1, d2, d3, d4] }
  | _ => none }
def InteractPairsWrongFalsely : Prop := interactPairsRow.holds Tryz.pinned (OpenSpec.ofChange interactPairsWrong)

/-- 'dendronlaw18.InteractStrongest': WHATEVER THE INPUT: true; the input reads as it did. -/
def interactStrongestSpec : ChangeSpec := { name := "interactStrongest", fn := fun _ => fun
  | [d1, d2] => { results := [.lit (.bool true)], args := [d1, d2] }
  | _ => none }
def interactStrongestRow : OpenClaim := { program := "ythcpiofmhkhbeaagreatdoor", sum := "2c2c848cbcb23edf702205eb40c84da22f73e3aa5d169b74be9371ddef37bffc", func := "dendron/dendronlaw18.InteractStrongest", spec := "interactStrongest", named := ["math/bits.deBruijn64tab"], apart := false, laid := [("math/bits.deBruijn64tab", laid_math_bits_deBruijn64tab)] }
def InteractStrongestSaid : Prop := interactStrongestRow.holds Tryz.pinned (OpenSpec.ofChange interactStrongestSpec)

/-- ITS FALSE NEIGHBOUR: 'it returns false'. Refute it at one input. -/
def interactStrongestWrong : ChangeSpec := { name := "interactStrongest", fn := fun _ => fun
  | [d1, d2] => { results := [.lit (.bool false)], args := [d1, d2] }
  | _ => none }
def InteractStrongestWrongFalsely : Prop := interactStrongestRow.holds Tryz.pinned (OpenSpec.ofChange interactStrongestWrong)

/-- 'dendronlaw18.InteractSums': WHATEVER THE INPUT: true; the input reads as it did. -/
def interactSumsSpec : ChangeSpec := { name := "interactSums", fn := fun _ => fun
  | [d1, d2] => { results := [.lit (.bool true)], args := [d1, d2] }
  | _ => none }
def interactSumsRow : OpenClaim := { program := "ythcpiofmhkhbeaagreatdoor", sum := "2c2c848cbcb23edf702205eb40c84da22f73e3aa5d169b74be9371ddef37bffc", func := "dendron/dendronlaw18.InteractSums", spec := "interactSums", recurses := true, named := ["math/bits.deBruijn64tab"], apart := false, laid := [("math/bits.deBruijn64tab", laid_math_bits_deBruijn64tab)] }
def InteractSumsSaid : Prop := interactSumsRow.holds Tryz.pinned (OpenSpec.ofChange interactSumsSpec)

/-- ITS FALSE NEIGHBOUR: 'it returns false'. Refute it at one input. -/
def interactSumsWrong : ChangeSpec := { name := "interactSums", fn := fun _ => fun
  | [d1, d2] => { results := [.lit (.bool false)], args := [d1, d2] }
  | _ => none }
def InteractSumsWrongFalsely : Prop := interactSumsRow.holds Tryz.pinned (OpenSpec.ofChange interactSumsWrong)

/- THE SECOND FORM. 'bulk': how many values and letters a reading holds, each counted each time it is reached (what is shared counts as often as it is met; a slice's spare places count too). A statement '..UptoSaid' is the law's where the arguments, and the package variables that the reading takes, are together of bulk at most 1048576: NARROWER than '..Said'. Prove '..Said' where nothing that the law and all that it calls make is longer than what came in: it says more and counts as full. Else prove '..UptoSaid'. A law counts once. -/
mutual
def uptoBulk {H : Type} : DataW H → Nat
  | .lit (.string bytes) => bytes.length + 1
  | .lit _ => 1
  | .nil => 1
  | .ptr d => uptoBulk d + 1
  | .slice elems spare => uptoBulkAll elems + uptoBulkAll spare + 1
  | .agg parts => uptoBulkAll parts + 1
  | .iface _ d => uptoBulk d + 1
  | .map entries => uptoBulkEntries entries + 1
  | .held _ => 1
def uptoBulkAll {H : Type} : List (DataW H) → Nat
  | [] => 0
  | d :: r => uptoBulk d + uptoBulkAll r
def uptoBulkEntries {H : Type} : List (Lit × DataW H) → Nat
  | [] => 0
  | x :: r => uptoBulkEntry x + uptoBulkEntries r
def uptoBulkEntry {H : Type} : Lit × DataW H → Nat
  | (.string bytes, d) => bytes.length + uptoBulk d + 1
  | (_, d) => uptoBulk d + 1
 end
def uptoSmall : (H : Type) → List (DataW H) → Bool := fun _ ds => decide (uptoBulkAll ds ≤ 1048576)
def OpenSpec.upto (s : _root_.Go.ChangeSpec) : _root_.Go.OpenSpec := { _root_.Go.OpenSpec.ofChange s with cond := some uptoSmall }

/-- 'dendronlaw15.PathshapTrees', WHERE WHAT IT READS IS OF BULK AT MOST 1048576: true; the input reads as it did. -/
def pathshapTreesUptoRow : OpenClaim := { program := "ythcpiofmhkhbeaagreatdoor", sum := "2c2c848cbcb23edf702205eb40c84da22f73e3aa5d169b74be9371ddef37bffc", func := "dendron/dendronlaw15.PathshapTrees", spec := "pathshapTrees", named := ["math/bits.deBruijn64tab"], apart := false, laid := [("math/bits.deBruijn64tab", laid_math_bits_deBruijn64tab)], narrowed := true }
def PathshapTreesUptoSaid : Prop := pathshapTreesUptoRow.holds Tryz.pinned (OpenSpec.upto pathshapTreesSpec)

/-- 'dendronlaw27.RankMeans', WHERE WHAT IT READS IS OF BULK AT MOST 1048576: true; the input reads as it did. -/
def rankMeansUptoRow : OpenClaim := { program := "ythcpiofmhkhbeaagreatdoor", sum := "2c2c848cbcb23edf702205eb40c84da22f73e3aa5d169b74be9371ddef37bffc", func := "dendron/dendronlaw27.RankMeans", spec := "rankMeans", named := ["math/bits.deBruijn64tab"], apart := false, laid := [("math/bits.deBruijn64tab", laid_math_bits_deBruijn64tab)], narrowed := true }
def RankMeansUptoSaid : Prop := rankMeansUptoRow.holds Tryz.pinned (OpenSpec.upto rankMeansSpec)

/-- 'dendronlaw25.TrimSays', WHERE WHAT IT READS IS OF BULK AT MOST 1048576: true; the input reads as it did. -/
def trimSaysUptoRow : OpenClaim := { program := "ythcpiofmhkhbeaagreatdoor", sum := "2c2c848cbcb23edf702205eb40c84da22f73e3aa5d169b74be9371ddef37bffc", func := "dendron/dendronlaw25.TrimSays", spec := "trimSays", unfollowed := true, recurses := true, named := ["math/bits.deBruijn64tab"], apart := false, laid := [("math/bits.deBruijn64tab", laid_math_bits_deBruijn64tab)], narrowed := true }
def TrimSaysUptoSaid : Prop := trimSaysUptoRow.holds Tryz.pinned (OpenSpec.upto trimSaysSpec)

/-- 'dendronlaw25.TrimTurns', WHERE WHAT IT READS IS OF BULK AT MOST 1048576: true; the input reads as it did. -/
def trimTurnsUptoRow : OpenClaim := { program := "ythcpiofmhkhbeaagreatdoor", sum := "2c2c848cbcb23edf702205eb40c84da22f73e3aa5d169b74be9371ddef37bffc", func := "dendron/dendronlaw25.TrimTurns", spec := "trimTurns", unfollowed := true, recurses := true, named := ["math/bits.deBruijn64tab"], apart := false, laid := [("math/bits.deBruijn64tab", laid_math_bits_deBruijn64tab)], narrowed := true }
def TrimTurnsUptoSaid : Prop := trimTurnsUptoRow.holds Tryz.pinned (OpenSpec.upto trimTurnsSpec)

/-- 'dendronlaw18.InteractPairs', WHERE WHAT IT READS IS OF BULK AT MOST 1048576: true; the input reads as it did. -/
def interactPairsUptoRow : OpenClaim := { program := "ythcpiofmhkhbeaagreatdoor", sum := "2c2c848cbcb23edf702205eb40c84da22f73e3aa5d169b74be9371ddef37bffc", func := "dendron/dendronlaw18.InteractPairs", spec := "interactPairs", named := ["math/bits.deBruijn64tab"], apart := false, laid := [("math/bits.deBruijn64tab", laid_math_bits_deBruijn64tab)], narrowed := true }
def InteractPairsUptoSaid : Prop := interactPairsUptoRow.holds Tryz.pinned (OpenSpec.upto interactPairsSpec)

/-- 'dendronlaw18.InteractStrongest', WHERE WHAT IT READS IS OF BULK AT MOST 1048576: true; the input reads as it did. -/
def interactStrongestUptoRow : OpenClaim := { program := "ythcpiofmhkhbeaagreatdoor", sum := "2c2c848cbcb23edf702205eb40c84da22f73e3aa5d169b74be9371ddef37bffc", func := "dendron/dendronlaw18.InteractStrongest", spec := "interactStrongest", named := ["math/bits.deBruijn64tab"], apart := false, laid := [("math/bits.deBruijn64tab", laid_math_bits_deBruijn64tab)], narrowed := true }
def InteractStrongestUptoSaid : Prop := interactStrongestUptoRow.holds Tryz.pinned (OpenSpec.upto interactStrongestSpec)

/-- 'dendronlaw18.InteractSums', WHERE WHAT IT READS IS OF BULK AT MOST 1048576: true; the input reads as it did. -/
def interactSumsUptoRow : OpenClaim := { program := "ythcpiofmhkhbeaagreatdoor", sum := "2c2c848cbcb23edf702205eb40c84da22f73e3aa5d169b74be9371ddef37bffc", func := "dendron/dendronlaw18.InteractSums", spec := "interactSums", recurses := true, named := ["math/bits.deBruijn64tab"], apart := false, laid := [("math/bits.deBruijn64tab", laid_math_bits_deBruijn64tab)], narrowed := true }
def InteractSumsUptoSaid : Prop := interactSumsUptoRow.holds Tryz.pinned (OpenSpec.upto interactSumsSpec)

end Rows
end Go.Proofs.YthcpiofmhkhbeaaGreatDoor
