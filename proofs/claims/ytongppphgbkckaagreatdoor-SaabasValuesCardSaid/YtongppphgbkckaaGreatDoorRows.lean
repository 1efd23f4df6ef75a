/-
  NARROWER THAN 'FOR EVERY INPUT', by the rows' own cells (each row's printed sentence says how): ExpectTables: laid · ExpectLegs: laid · ExpectNodes: laid · SaabasSteps: laid · SaabasValues: laid · DependCovers: laid · DependAverages: laid.
  DERIVED. THE GIVEN ROWS OF THIS SEAT. 7 by the template 'for every input the law returns true; each argument reads behind the call as it read before'; 0 by the template 'total and deterministic' (their statements: YtongppphgbkckaaGreatDoorTotals.lean).
  GIVEN WITH THE SEED: the statements are not yours to turn. If you find one false, say at which input.
  Laid BY PROGRAM, IN A SANDBOX (cutbox-rows.mjs): the forced cells as the released guide's own fill.sh prints them over the translation ecfc8831e152a36b… (all of the seat's roots in one cut). By AI agents, Wed Nov 11 2026. No macro, syntax, notation, axiom, sorry.
-/
import Derived.Test.YtongppphgbkckaaGreatDoorChecked
import GoSem.Claim
import GoSem.ClaimJoined
import GoSem.ClaimMapViews
import Derived.JoinedTies
import Derived.KernelRfl
namespace Go.Proofs.YtongppphgbkckaaGreatDoor
/- THE CELL 'sum', in the pinned program and in every row, IS THE sha256 OF THE DUMP (.gsa) THAT YtongppphgbkckaaGreatDoorProg.lean LOADS. Nothing in Lean hashes anything: it is a label: what it is worth is what the hold of that sum in a sandbox is worth. -/
noncomputable def Tryz.pinned : Pinned := { name := "ytongppphgbkckaagreatdoor", sum := "ecfc8831e152a36b8d893bec34039d16406a6dfa3c79349a8fe2228f6c0ec3a1", checked := Tryz.checked }
namespace Rows
def none {H : Type} : Left H := { results := [], args := [] }

/- WHAT THE LISTED PACKAGE-LEVEL VARIABLES READ AS WHEN THE CALL BEGINS. Each datum BY PROGRAM (the guide's laid-datum.mjs) off the statement by which the dump's own 'gosem.cut.vars' lays the variable. In a bare row this is a premise. The card (YtongppphgbkckaaGreatDoorCards.lean) ties it to the program's text. -/
def laid_math_bits_deBruijn64tab {H : Type} : DataW H := .agg [.lit (.int .u8 0), .lit (.int .u8 1), .lit (.int .u8 56), .lit (.int .u8 2), .lit (.int .u8 57), .lit (.int .u8 49), .lit (.int .u8 28), .lit (.int .u8 3), .lit (.int .u8 61), .lit (.int .u8 58), .lit (.int .u8 42), .lit (.int .u8 50), .lit (.int .u8 38), .lit (.int .u8 29), .lit (.int .u8 17), .lit (.int .u8 4), .lit (.int .u8 62), .lit (.int .u8 47), .lit (.int .u8 59), .lit (.int .u8 36), .lit (.int .u8 45), .lit (.int .u8 43), .lit (.int .u8 51), .lit (.int .u8 22), .lit (.int .u8 53), .lit (.int .u8 39), .lit (.int .u8 33), .lit (.int .u8 30), .lit (.int .u8 24), .lit (.int .u8 18), .lit (.int .u8 12), .lit (.int .u8 5), .lit (.int .u8 63), .lit (.int .u8 55), .lit (.int .u8 48), .lit (.int .u8 27), .lit (.int .u8 60), .lit (.int .u8 41), .lit (.int .u8 37), .lit (.int .u8 16), .lit (.int .u8 46), .lit (.int .u8 35), .lit (.int .u8 44), .lit (.int .u8 21), .lit (.int .u8 52), .lit (.int .u8 32), .lit (.int .u8 23), .lit (.int .u8 11), .lit (.int .u8 54), .lit (.int .u8 26), .lit (.int .u8 40), .lit (.int .u8 15), .lit (.int .u8 34), .lit (.int .u8 20), .lit (.int .u8 31), .lit (.int .u8 10), .lit (.int .u8 25), .lit (.int .u8 14), .lit (.int .u8 19), .lit (.int .u8 9), .lit (.int .u8 13), .lit (.int .u8 8), .lit (.int .u8 7), .lit (.int .u8 6)]

/-- 'dendronlaw11.ExpectTables': WHATEVER THE INPUT: true; the input reads as it did. -/
def expectTablesSpec : ChangeSpec := { name := "expectTables", fn := fun _ => fun
  | [d1, d2] => { results := [.lit (.bool true)], args := [d1, d2] }
  | _ => none }
def expectTablesRow : OpenClaim := { program := "ytongppphgbkckaagreatdoor", sum := "ecfc8831e152a36b8d893bec34039d16406a6dfa3c79349a8fe2228f6c0ec3a1", func := "dendron/dendronlaw11.ExpectTables", spec := "expectTables", recurses := true, named := ["math/bits.deBruijn64tab"], apart := false, laid := [("math/bits.deBruijn64tab", laid_math_bits_deBruijn64tab)] }
def ExpectTablesSaid : Prop := expectTablesRow.holds Tryz.pinned (OpenSpec.ofChange expectTablesSpec)

/-- ITS FALSE NEIGHBOUR: 'it returns false'. Refute it at one input. -/
def expectTablesWrong : ChangeSpec := { name := "expectTables", fn := fun _ => fun
  | [d1, d2] => { results := [.lit (.bool false)], args := [d1, d2] }
  | _ => none }
def ExpectTablesWrongFalsely : Prop := expectTablesRow.holds Tryz.pinned (OpenSpec.ofChange expectTablesWrong)

/-- 'dendronlaw11.ExpectLegs': WHATEVER THE INPUT: true; the input reads as it did. -/
def expectLegsSpec : ChangeSpec := { name := "expectLegs", fn := fun _ => fun
  | [d1, d2] => { results := [.lit (.bool true)], args := [d1, d2] }
  | _ => none }
def expectLegsRow : OpenClaim := { program := "ytongppphgbkckaagreatdoor", sum := "ecfc8831e152a36b8d893bec34039d16406a6dfa3c79349a8fe2228f6c0ec3a1", func := "dendron/dendronlaw11.ExpectLegs", spec := "expectLegs", recurses := true, named := ["math/bits.deBruijn64tab"], apart := false, laid := [("math/bits.deBruijn64tab", laid_math_bits_deBruijn64tab)] }
def ExpectLegsSaid : Prop := expectLegsRow.holds Tryz.pinned (OpenSpec.ofChange expectLegsSpec)

/-- ITS FALSE NEIGHBOUR: 'it returns false'. Refute it at one input. -/
def expectLegsWrong : ChangeSpec := { name := "expectLegs", fn := fun _ => fun
  | [d1, d2] => { results := [.lit (.bool false)], args := [d1, d2] }
  | _ => none }
def ExpectLegsWrongFalsely : Prop := expectLegsRow.holds Tryz.pinned (OpenSpec.ofChange expectLegsWrong)

/-- 'dendronlaw11.ExpectNodes': WHATEVER THE INPUT: true; the input reads as it did. -/
def expectNodesSpec : ChangeSpec := { name := "expectNodes", fn := fun _ => fun
  | [d1, d2] => { results := [.lit (.bool true)], args := [d1, d2] }
  | _ => none }
def expectNodesRow : OpenClaim := { program := "ytongppphgbkckaagreatdoor", sum := "ecfc8831e152a36b8d893bec34039d16406a6dfa3c79349a8fe2228f6c0ec3a1", func := "dendron/dendronlaw11.ExpectNodes", spec := "expectNodes", recurses := true, named := ["math/bits.deBruijn64tab"], apart := false, laid := [("math/bits.deBruijn64tab", laid_math_bits_deBruijn64tab)] }
def ExpectNodesSaid : Prop := expectNodesRow.holds Tryz.pinned (OpenSpec.ofChange expectNodesSpec)

/-- ITS FALSE NEIGHBOUR: 'it returns false'. Refute it at one input. -/
def expectNodesWrong : ChangeSpec := { name := "expectNodes", fn := fun _ => fun
  | [d1, d2] => { results := [.lit (.bool false)], args := [d1, d2] }
  | _ => none }
def ExpectNodesWrongFalsely : Prop := expectNodesRow.holds Tryz.pinned (OpenSpec.ofChange expectNodesWrong)

/-- 'dendronlaw12.SaabasSteps': WHATEVER THE INPUT: true; the input reads as it did. -/
def saabasStepsSpec : ChangeSpec := { name := "saabasSteps", fn := fun _ => fun
  | [d1, d2] => { results := [.lit (.bool true)], args := [d1, d2] }
  | _ => none }
def saabasStepsRow : OpenClaim := { program := "ytongppphgbkckaagreatdoor", sum := "ecfc8831e152a36b8d893bec34039d16406a6dfa3c79349a8fe2228f6c0ec3a1", func := "dendron/dendronlaw12.SaabasSteps", spec := "saabasSteps", recurses := true, named := ["math/bits.deBruijn64tab"], apart := false, laid := [("math/bits.deBruijn64tab", laid_math_bits_deBruijn64tab)] }
def SaabasStepsSaid : Prop := saabasStepsRow.holds Tryz.pinned (OpenSpec.ofChange saabasStepsSpec)

/-- ITS FALSE NEIGHBOUR: 'it returns false'. Refute it at one input. -/
def saabasStepsWrong : ChangeSpec := { name := "saabasSteps", fn := fun _ => fun
  | [d1, d2] => { results := [.lit (.bool false)], args := [d1, d2] }
  | _ => none }
def SaabasStepsWrongFalsely : Prop := saabasStepsRow.holds Tryz.pinned (OpenSpec.ofChange saabasStepsWrong)

/-- 'dendronlaw12.SaabasValues': WHATEVER THE INPUT: true; the input reads as it did. -/
def saabasValuesSpec : ChangeSpec := { name := "saabasValues", fn := fun _ => fun
  | [d1, d2] => { results := [.lit (.bool true)], args := [d1, d2] }
  | _ => none }
def saabasValuesRow : OpenClaim := { program := "ytongppphgbkckaagreatdoor", sum := "ecfc8831e152a36b8d893bec34039d16406a6dfa3c79349a8fe2228f6c0ec3a1", func := "dendron/dendronlaw12.SaabasValues", spec := "saabasValues", recurses := true, named := ["math/bits.deBruijn64tab"], apart := false, laid := [("math/bits.deBruijn64tab", laid_math_bits_deBruijn64tab)] }
def SaabasValuesSaid : Prop := saabasValuesRow.holds Tryz.pinned (OpenSpec.ofChange saabasValuesSpec)

/-- ITS FALSE NEIGHBOUR: 'it returns false'. Refute it at one input. -/
def saabasValuesWrong : ChangeSpec := { name := "saabasValues", fn := fun _ => fun
  | [d1, d2] => { results := [.lit (.bool false)], args := [d1, d2] }
  | _ => none }
def SaabasValuesWrongFalsely : Prop := saabasValuesRow.holds Tryz.pinned (OpenSpec.ofChange saabasValuesWrong)

/-- 'dendronlaw13.DependCovers': WHATEVER THE INPUT: true; the input reads as it did. -/
def dependCoversSpec : ChangeSpec := { name := "dependCovers", fn := fun _ => fun
  | [d1, d2, d3] => { results := [.lit (.bool true)], args := [d1, d2, d3] }
  | _ => none }
def dependCoversRow : OpenClaim := { program := "ytongppphgbkckaagreatdoor", sum := "ecfc8831e152a36b8d893bec34039d16406a6dfa3c79349a8fe2228f6c0ec3a1", func := "dendron/dendronlaw13.DependCovers", spec := "dependCovers", recurses := true, named := ["math/bits.deBruijn64tab"], apart := false, laid := [("math/bits.deBruijn64tab", laid_math_bits_deBruijn64tab)] }
def DependCoversSaid : Prop := dependCoversRow.holds Tryz.pinned (OpenSpec.ofChange dependCoversSpec)

/-- ITS FALSE NEIGHBOUR: 'it returns false'. Refute it at one input. -/
def dependCoversWrong : ChangeSpec := { name := "dependCovers", fn := fun _ => fun
  | [d1, d2, d3] => { results := [.lit (.bool false)], args := [d1, d2, d3] }
  | _ => none }
def DependCoversWrongFalsely : Prop := dependCoversRow.holds Tryz.pinned (OpenSpec.ofChange dependCoversWrong)

/-- 'dendronlaw13.DependAverages': WHATEVER THE INPUT: true; the input reads as it did. -/
def dependAveragesSpec : ChangeSpec := { name := "dependAverages", fn := fun _ => fun
  | [d1, d2, d3, d4] => { results := [.lit (.bool true)], args := [d1, d2, d3, d4] }
  | _ => none }
def dependAveragesRow : OpenClaim := { program := "ytongppphgbkckaagreatdoor", sum := "ecfc8831e152a36b8d893bec34039d16406a6dfa3c79349a8fe2228f6c0ec3a1", func := "dendron/dendronlaw13.DependAverages", spec := "dependAverages", recurses := true, named := ["math/bits.deBruijn64tab"], apart := false, laid := [("math/bits.deBruijn64tab", laid_math_bits_deBruijn64tab)] }
def DependAveragesSaid : Prop := dependAveragesRow.holds Tryz.pinned (OpenSpec.ofChange dependAveragesSpec)

/-- ITS FALSE NEIGHBOUR: 'it returns false'. Refute it at one input. -/
def dependAveragesWrong : ChangeSpec := { name := "dependAverages", fn := fun _ => fun
  | [d1, d2, d3, d4] => { results := [.lit (.bool false)], args := [d1, d2, d3, d4] }
  | _ => none }
def DependAveragesWrongFalsely : Prop := dependAveragesRow.holds Tryz.pinned (OpenSpec.ofChange dependAveragesWrong)

/- THE SECOND FORM. 'bulk': how many values and letters a reading holds, each counted each time it is reached (what is shared counts as often as it is met; a slice's spare places count too). A statement '..UptoSaid' is the law's where the arguments, and the package variables that the reading takes, are together of bulk at most 1048576: NARROWER than '..Said'. Prove '..Said' where nothing that the law and all that it calls make is longer than what came in: it says more and counts as full. Else prove '..UptoSaid'. A law counts once. -/
mutual
def uptoBulk {H : Type} : DataW H → Nat
  | .lit (.string bytes) => bytes.length + 1
  | .lit _ => 1
  | .nil => 1
  | .ptr d => uptoBulk d + 1
  | .slice elems spare => uptoBulkAll elems + uptoBulkAll spare + 1
  | .agg parts => uptoBulkAll parts + 1
  | .iface _ d => uptoBulk d + 1
  | .map entries => uptoBulkEntries entries + 1
  | .held _ => 1
def uptoBulkAll {H : Type} : List (DataW H) → Nat
  | [] => 0
  | d :: r => uptoBulk d + uptoBulkAll r
def uptoBulkEntries {H : Type} : List (Lit × DataW H) → Nat
  | [] => 0
  | x :: r => uptoBulkEntry x + uptoBulkEntries r
def uptoBulkEntry {H : Type} : Lit × DataW H → Nat
  | (.string bytes, d) => bytes.length + uptoBulk d + 1
  | (_, d) => uptoBulk d + 1
 end
def uptoSmall : (H : Type) → List (DataW H) → Bool := fun _ ds => decide (uptoBulkAll ds ≤ 1048576)
def OpenSpec.upto (s : _root_.Go.ChangeSpec) : _root_.Go.OpenSpec := { _root_.Go.OpenSpec.ofChange s with cond := some uptoSmall }

/-- 'dendronlaw11.ExpectTables', WHERE WHAT IT READS IS OF BULK AT MOST 1048576: true; the input reads as it did. -/
def expectTablesUptoRow : OpenClaim := { program := "ytongppphgbkckaagreatdoor", sum := "ecfc8831e152a36b8d893bec34039d16406a6dfa3c79349a8fe2228f6c0ec3a1", func := "dendron/dendronlaw11.ExpectTables", spec := "expectTables", recurses := true, named := ["math/bits.deBruijn64tab"], apart := false, laid := [("math/bits.deBruijn64tab", laid_math_bits_deBruijn64tab)], narrowed := true }
def ExpectTablesUptoSaid : Prop := expectTablesUptoRow.holds Tryz.pinned (OpenSpec.upto expectTablesSpec)

/-- 'dendronlaw11.ExpectLegs', WHERE WHAT IT READS IS OF BULK AT MOST 1048576: true; the input reads as it did. -/
def expectLegsUptoRow : OpenClaim := { program := "ytongppphgbkckaagreatdoor", sum := "ecfc8831e152a36b8d893bec34039d16406a6dfa3c79349a8fe2228f6c0ec3a1", func := "dendron/dendronlaw11.ExpectLegs", spec := "expectLegs", recurses := true, named := ["math/bits.deBruijn64tab"], apart := false, laid := [("math/bits.deBruijn64tab", laid_math_bits_deBruijn64tab)], narrowed := true }
def ExpectLegsUptoSaid : Prop := expectLegsUptoRow.holds Tryz.pinned (OpenSpec.upto expectLegsSpec)

/-- 'dendronlaw11.ExpectNodes', WHERE WHAT IT READS IS OF BULK AT MOST 1048576: true; the input reads as it did. -/
def expectNodesUptoRow : OpenClaim := { program := "ytongppphgbkckaagreatdoor", sum := "ecfc8831e152a36b8d893bec34039d16406a6dfa3c79349a8fe2228f6c0ec3a1", func := "dendron/dendronlaw11.ExpectNodes", spec := "expectNodes", recurses := true, named := ["math/bits.deBruijn64tab"], apart := false, laid := [("math/bits.deBruijn64tab", laid_math_bits_deBruijn64tab)], narrowed := true }
def ExpectNodesUptoSaid : Prop := expectNodesUptoRow.holds Tryz.pinned (OpenSpec.upto expectNodesSpec)

/-- 'dendronlaw12.SaabasSteps', WHERE WHAT IT READS IS OF BULK AT MOST 1048576: true; the input reads as it did. -/
def saabasStepsUptoRow : OpenClaim := { program := "ytongppphgbkckaagreatdoor", sum := "ecfc8831e152a36b8d893bec34039d16406a6dfa3c79349a8fe2228f6c0ec3a1", func := "dendron/dendronlaw12.SaabasSteps", spec := "saabasSteps", recurses := true, named := ["math/bits.deBruijn64tab"], apart := false, laid := [("math/bits.deBruijn64tab", laid_math_bits_deBruijn64tab)], narrowed := true }
def SaabasStepsUptoSaid : Prop := saabasStepsUptoRow.holds Tryz.pinned (OpenSpec.upto saabasStepsSpec)

/-- 'dendronlaw12.SaabasValues', WHERE WHAT IT READS IS OF BULK AT MOST 1048576: true; the input reads as it did. -/
def saabasValuesUptoRow : OpenClaim := { program := "ytongppphgbkckaagreatdoor", sum := "ecfc8831e152a36b8d893bec34039d16406a6dfa3c79349a8fe2228f6c0ec3a1", func := "dendron/dendronlaw12.SaabasValues", spec := "saabasValues", recurses := true, named := ["math/bits.deBruijn64tab"], apart := false, laid := [("math/bits.deBruijn64tab", laid_math_bits_deBruijn64tab)], narrowed := true }
def SaabasValuesUptoSaid : Prop := saabasValuesUptoRow.holds Tryz.pinned (OpenSpec.upto saabasValuesSpec)

/-- 'dendronlaw13.DependCovers', WHERE WHAT IT READS IS OF BULK AT MOST 1048576: true; the input reads as it did. -/
def dependCoversUptoRow : OpenClaim := { program := "ytongppphgbkckaagreatdoor", sum := "ecfc8831e152a36b8d893bec34039d16406a6dfa3c79349a8fe2228f6c0ec3a1", func := "dendron/dendronlaw13.DependCovers", spec := "dependCovers", recurses := true, named := ["math/bits.deBruijn64tab"], apart := false, laid := [("math/bits.deBruijn64tab", laid_math_bits_deBruijn64tab)], narrowed := true }
def DependCoversUptoSaid : Prop := dependCoversUptoRow.holds Tryz.pinned (OpenSpec.upto dependCoversSpec)

/-- 'dendronlaw13.DependAverages', WHERE WHAT IT READS IS OF BULK AT MOST 1048576: true; the input reads as it did. -/
def dependAveragesUptoRow : OpenClaim := { program := "ytongppphgbkckaagreatdoor", sum := "ecfc8831e152a36b8d893bec34039d16406a6dfa3c79349a8fe2228f6c0ec3a1", func := "dendron/dendronlaw13.DependAverages", spec := "dependAverages", recurses := true, named := ["math/bits.deBruijn64tab"], apart := false, laid := [("math/bits.deBruijn64tab", laid_math_bits_deBruijn64tab)], narrowed := true }
def DependAveragesUptoSaid : Prop := dependAveragesUptoRow.holds Tryz.pinned (OpenSpec.upto dependAveragesSpec)

end Rows
end Go.Proofs.YtongppphgbkckaaGreatDoor
