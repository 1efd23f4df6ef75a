/-
  NARROWER THAN 'FOR EVERY INPUT', by the rows' own cells (each row's printed sentence says how): RouteLefts: laid · RoutePredicts: laid · RouteWays: laid · RouteCuts: laid · RouteStands: laid · ExpectReach: laid · ExpectBases: laid · ExpectAll: laid.
  DERIVED. THE GIVEN ROWS OF THIS SEAT. 8 by the template 'for every input the law returns true; each argument reads behind the call as it read before'; 0 by the template 'total and deterministic' (their statements: YtflagjfdamgknaaDoorTotals.lean).
  GIVEN WITH THE SEED: the statements are not yours to turn. If you find one false, say at which input.
  Laid BY PROGRAM, IN A SANDBOX (cutbox-rows.mjs): the forced cells as the released guide's own fill.sh prints them over the translation 5e385962ecdd9ee5… (all of the seat's roots in one cut). By AI agents, Wed Nov 11 2026. No macro, syntax, notation, axiom, sorry.
-/
import Derived.Test.YtflagjfdamgknaaDoorChecked
import GoSem.Claim
import GoSem.ClaimJoined
import GoSem.ClaimMapViews
import Derived.JoinedTies
import Derived.KernelRfl
namespace Go.Proofs.YtflagjfdamgknaaDoor
/- THE CELL 'sum', in the pinned program and in every row, IS THE sha256 OF THE DUMP (.gsa) THAT YtflagjfdamgknaaDoorProg.lean LOADS. Nothing in Lean hashes anything: it is a label: what it is worth is what the hold of that sum in a sandbox is worth. -/
noncomputable def Tryd.pinned : Pinned := { name := "ytflagjfdamgknaadoor", sum := "5e385962ecdd9ee5fa92daf9ac10f603c7aa0276a8bec06327b9244fe1612ff3", checked := Tryd.checked }
namespace Rows
def none {H : Type} : Left H := { results := [], args := [] }

/- WHAT THE LISTED PACKAGE-LEVEL VARIABLES READ AS WHEN THE CALL BEGINS. Each datum BY PROGRAM (the guide's laid-datum.mjs) off the statement by which the dump's own 'gosem.cut.vars' lays the variable. In a bare row this is a premise. The card (YtflagjfdamgknaaDoorCards.lean) ties it to the program's text. -/
def laid_math_bits_deBruijn64tab {H : Type} : DataW H := .agg [.lit (.int .u8 0), .lit (.int .u8 1), .lit (.int .u8 56), .lit (.int .u8 2), .lit (.int .u8 57), .lit (.int .u8 49), .lit (.int .u8 28), .lit (.int .u8 3), .lit (.int .u8 61), .lit (.int .u8 58), .lit (.int .u8 42), .lit (.int .u8 50), .lit (.int .u8 38), .lit (.int .u8 29), .lit (.int .u8 17), .lit (.int .u8 4), .lit (.int .u8 62), .lit (.int .u8 47), .lit (.int .u8 59), .lit (.int .u8 36), .lit (.int .u8 45), .lit (.int .u8 43), .lit (.int .u8 51), .lit (.int .u8 22), .lit (.int .u8 53), .lit (.int .u8 39), .lit (.int .u8 33), .lit (.int .u8 30), .lit (.int .u8 24), .lit (.int .u8 18), .lit (.int .u8 12), .lit (.int .u8 5), .lit (.int .u8 63), .lit (.int .u8 55), .lit (.int .u8 48), .lit (.int .u8 27), .lit (.int .u8 60), .lit (.int .u8 41), .lit (.int .u8 37), .lit (.int .u8 16), .lit (.int .u8 46), .lit (.int .u8 35), .lit (.int .u8 44), .lit (.int .u8 21), .lit (.int .u8 52), .lit (.int .u8 32), .lit (.int .u8 23), .lit (.int .u8 11), .lit (.int .u8 54), .lit (.int .u8 26), .lit (.int .u8 40), .lit (.int .u8 15), .lit (.int .u8 34), .lit (.int .u8 20), .lit (.int .u8 31), .lit (.int .u8 10), .lit (.int .u8 25), .lit (.int .u8 14), .lit (.int .u8 19), .lit (.int .u8 9), .lit (.int .u8 13), .lit (.int .u8 8), .lit (.int .u8 7), .lit (.int .u8 6)]

/-- 'dendronlaw10.RouteLefts': WHATEVER THE INPUT: true; the input reads as it did. -/
def routeLeftsSpec : ChangeSpec := { name := "routeLefts", fn := fun _ => fun
  | [d1, d2] => { results := [.lit (.bool true)], args := [d1, d2] }
  | _ => none }
def routeLeftsRow : OpenClaim := { program := "ytflagjfdamgknaadoor", sum := "5e385962ecdd9ee5fa92daf9ac10f603c7aa0276a8bec06327b9244fe1612ff3", func := "dendron/dendronlaw10.RouteLefts", spec := "routeLefts", named := ["math/bits.deBruijn64tab"], apart := false, laid := [("math/bits.deBruijn64tab", laid_math_bits_deBruijn64tab)] }
def RouteLeftsSaid : Prop := routeLeftsRow.holds Tryd.pinned (OpenSpec.ofChange routeLeftsSpec)

/-- ITS FALSE NEIGHBOUR: 'it returns false'. Refute it at one input. -/
def routeLeftsWrong : ChangeSpec := { name := "routeLefts", fn := fun _ => fun
  | [d1, d2] => { results := [.lit (.bool false)], args := [d1, d2] }
  | _ => none }
def RouteLeftsWrongFalsely : Prop := routeLeftsRow.holds Tryd.pinned (OpenSpec.ofChange routeLeftsWrong)

/-- 'dendronlaw10.RoutePredicts': WHATEVER THE INPUT: true; the input reads as it did. -/
def routePredictsSpec : ChangeSpec := { name := "routePredicts", fn := fun _ => fun
  | [d1, d2] => { results := [.lit (.bool true)], args := [d1, d2] }
  | _ => none }
def routePredictsRow : OpenClaim := { program := "ytflagjfdamgknaadoor", sum := "5e385962ecdd9ee5fa92daf9ac10f603c7aa0276a8bec06327b9244fe1612ff3", func := "dendron/dendronlaw10.RoutePredicts", spec := "routePredicts", recurses := true, named := ["math/bits.deBruijn64tab"], apart := false, laid := [("math/bits.deBruijn64tab", laid_math_bits_deBruijn64tab)] }
def RoutePredictsSaid : Prop := routePredictsRow.holds Tryd.pinned (OpenSpec.ofChange routePredictsSpec)

/-- ITS FALSE NEIGHBOUR: 'it returns false'. Refute it at one input. -/
def routePredictsWrong : ChangeSpec := { name := "routePredicts", fn := fun _ => fun
  | [d1, d2] => { results := [.lit (.bool false)], args := [d1, d2] }
  | _ => none }
def RoutePredictsWrongFalsely : Prop := routePredictsRow.holds Tryd.pinned (OpenSpec.ofChange routePredictsWrong)

/-- 'dendronlaw10.RouteWays': WHATEVER THE INPUT: true; the input reads as it did. -/
def routeWaysSpec : ChangeSpec := { name := "routeWays", fn := fun _ => fun
  | [d1, d2] => { results := [.lit (.bool true)], args := [d1, d2] }
  | _ => none }
def routeWaysRow : OpenClaim := { program := "ytflagjfdamgknaadoor", sum := "5e385962ecdd9ee5fa92daf9ac10f603c7aa0276a8bec06327b9244fe1612ff3", func := "dendron/dendronlaw10.RouteWays", spec := "routeWays", recurses := true, named := ["math/bits.deBruijn64tab"], apart := false, laid := [("math/bits.deBruijn64tab", laid_math_bits_deBruijn64tab)] }
def RouteWaysSaid : Prop := routeWaysRow.holds Tryd.pinned (OpenSpec.ofChange routeWaysSpec)

/-- ITS FALSE NEIGHBOUR: 'it returns false'. Refute it at one input. -/
def routeWaysWrong : ChangeSpec := { name := "routeWays", fn := fun _ => fun
  | [d1, d2] => { results := [.lit (.bool false)], args := [d1, d2] }
  | _ => none }
def RouteWaysWrongFalsely : Prop := routeWaysRow.holds Tryd.pinned (OpenSpec.ofChange routeWaysWrong)

/-- 'dendronlaw10.RouteCuts': WHATEVER THE INPUT: true; the input reads as it did. -/
def routeCutsSpec : ChangeSpec := { name := "routeCuts", fn := fun _ => fun
  | [d1, d2] => { results := [.lit (.bool true)], args := [d1, d2] }
  | _ => none }
def routeCutsRow : OpenClaim := { program := "ytflagjfdamgknaadoor", sum := "5e385962ecdd9ee5fa92daf9ac10f603c7aa0276a8bec06327b9244fe1612ff3", func := "dendron/dendronlaw10.RouteCuts", spec := "routeCuts", named := ["math/bits.deBruijn64tab"], apart := false, laid := [("math/bits.deBruijn64tab", laid_math_bits_deBruijn64tab)] }
def RouteCutsSaid : Prop := routeCutsRow.holds Tryd.pinned (OpenSpec.ofChange routeCutsSpec)

/-- ITS FALSE NEIGHBOUR: 'it returns false'. Refute it at one input. -/
def routeCutsWrong : ChangeSpec := { name := "routeCuts", fn := fun _ => fun
  | [d1, d2] => { results := [.lit (.bool false)], args := [d1, d2] }
  | _ => none }
def RouteCutsWrongFalsely : Prop := routeCutsRow.holds Tryd.pinned (OpenSpec.ofChange routeCutsWrong)

/-- 'dendronlaw10.RouteStands': WHATEVER THE INPUT: true; the input reads as it did. -/
def routeStandsSpec : ChangeSpec := { name := "routeStands", fn := fun _ => fun
  | [d1, d2, d3] => { results := [.lit (.bool true)], args := [d1, d2, d3] }
  | _ => none }
def routeStandsRow : OpenClaim := { program := "ytflagjfdamgknaadoor", sum := "5e385962ecdd9ee5fa92daf9ac10f603c7aa0276a8bec06327b9244fe1612ff3", func := "dendron/dendronlaw10.RouteStands", spec := "routeStands", named := ["math/bits.deBruijn64tab"], apart := false, laid := [("math/bits.deBruijn64tab", laid_math_bits_deBruijn64tab)] }
def RouteStandsSaid : Prop := routeStandsRow.holds Tryd.pinned (OpenSpec.ofChange routeStandsSpec)

/-- ITS FALSE NEIGHBOUR: 'it returns false'. Refute it at one input. -/
def routeStandsWrong : ChangeSpec := { name := "routeStands", fn := fun _ => fun
  | [d1, d2, d3] => { results := [.lit (.bool false)], args := [d1, d2, d3] }
  | _ => none }
def RouteStandsWrongFalsely : Prop := routeStandsRow.holds Tryd.pinned (OpenSpec.ofChange routeStandsWrong)

/-- 'dendronlaw11.ExpectReach': WHATEVER THE INPUT: true; the input reads as it did. -/
def expectReachSpec : ChangeSpec := { name := "expectReach", fn := fun _ => fun
  | [d1, d2] => { results := [.lit (.bool true)], args := [d1, d2] }
  | _ => none }
def expectReachRow : OpenClaim := { program := "ytflagjfdamgknaadoor", sum := "5e385962ecdd9ee5fa92daf9ac10f603c7aa0276a8bec06327b9244fe1612ff3", func := "dendron/dendronlaw11.ExpectReach", spec := "expectReach", recurses := true, named := ["math/bits.deBruijn64tab"], apart := false, laid := [("math/bits.deBruijn64tab", laid_math_bits_deBruijn64tab)] }
def ExpectReachSaid : Prop := expectReachRow.holds Tryd.pinned (OpenSpec.ofChange expectReachSpec)

/-- ITS FALSE NEIGHBOUR: 'it returns false'. Refute it at one input. -/
def expectReachWrong : ChangeSpec := { name := "expectReach", fn := fun _ => fun
  | [d1, d2] => { results := [.lit (.bool false)], args := [d1, d2] }
  | _ => none }
def ExpectReachWrongFalsely : Prop := expectReachRow.holds Tryd.pinned (OpenSpec.ofChange expectReachWrong)

/-- 'dendronlaw11.ExpectBases': WHATEVER THE INPUT: true; the input reads as it did. -/
def expectBasesSpec : ChangeSpec := { name := "expectBases", fn := fun _ => fun
  | [d1, d2] => { results := [.lit (.bool true)], args := [d1, d2] }
  | _ => none }
def expectBasesRow : OpenClaim := { program := "ytflagjfdamgknaadoor", sum := "5e385962ecdd9ee5fa92daf9ac10f603c7aa0276a8bec06327b9244fe1612ff3", func := "dendron/dendronlaw11.ExpectBases", spec := "expectBases", recurses := true, named := ["math/bits.deBruijn64tab"], apart := false, laid := [("math/bits.deBruijn64tab", laid_math_bits_deBruijn64tab)] }
def ExpectBasesSaid : Prop := expectBasesRow.holds Tryd.pinned (OpenSpec.ofChange expectBasesSpec)

/-- ITS FALSE NEIGHBOUR: 'it returns false'. Refute it at one input. -/
def expectBasesWrong : ChangeSpec := { name := "expectBases", fn := fun _ => fun
  | [d1, d2] => { results := [.lit (.bool false)], args := [d1, d2] }
  | _ => none }
def ExpectBasesWrongFalsely : Prop := expectBasesRow.holds Tryd.pinned (OpenSpec.ofChange expectBasesWrong)

/-- 'dendronlaw11.ExpectAll': WHATEVER THE INPUT: true; the input reads as it did. -/
def expectAllSpec : ChangeSpec := { name := "expectAll", fn := fun _ => fun
  | [d1, d2] => { results := [.lit (.bool true)], args := [d1, d2] }
  | _ => none }
def expectAllRow : OpenClaim := { program := "ytflagjfdamgknaadoor", sum := "5e385962ecdd9ee5fa92daf9ac10f603c7aa0276a8bec06327b9244fe1612ff3", func := "dendron/dendronlaw11.ExpectAll", spec := "expectAll", recurses := true, named := ["math/bits.deBruijn64tab"], apart := false, laid := [("math/bits.deBruijn64tab", laid_math_bits_deBruijn64tab)] }
def ExpectAllSaid : Prop := expectAllRow.holds Tryd.pinned (OpenSpec.ofChange expectAllSpec)

/-- ITS FALSE NEIGHBOUR: 'it returns false'. Refute it at one input. -/
def expectAllWrong : ChangeSpec := { name := "expectAll", fn := fun _ => fun
  | [d1, d2] => { results := [.lit (.bool false)], args := [d1, d2] }
  | _ => none }
def ExpectAllWrongFalsely : Prop := expectAllRow.holds Tryd.pinned (OpenSpec.ofChange expectAllWrong)

/- THE SECOND FORM. 'bulk': how many values and letters a reading holds, each counted each time it is reached (what is shared counts as often as it is met; a slice's spare places count too). A statement '..UptoSaid' is the law's where the arguments, and the package variables that the reading takes, are together of bulk at most 1048576: NARROWER than '..Said'. Prove '..Said' where nothing that the law and all that it calls make is longer than what came in: it says more and counts as full. Else prove '..UptoSaid'. A law counts once. -/
mutual
def uptoBulk {H : Type} : DataW H → Nat
  | .lit (.string bytes) => bytes.length + 1
  | .lit _ => 1
  | .nil => 1
  | .ptr d => uptoBulk d + 1
  | .slice elems spare => uptoBulkAll elems + uptoBulkAll spare + 1
  | .agg parts => uptoBulkAll parts + 1
  | .iface _ d => uptoBulk d + 1
  | .map entries => uptoBulkEntries entries + 1
  | .held _ => 1
def uptoBulkAll {H : Type} : List (DataW H) → Nat
  | [] => 0
  | d :: r => uptoBulk d + uptoBulkAll r
def uptoBulkEntries {H : Type} : List (Lit × DataW H) → Nat
  | [] => 0
  | x :: r => uptoBulkEntry x + uptoBulkEntries r
def uptoBulkEntry {H : Type} : Lit × DataW H → Nat
  | (.string bytes, d) => bytes.length + uptoBulk d + 1
  | (_, d) => uptoBulk d + 1
 end
def uptoSmall : (H : Type) → List (DataW H) → Bool := fun _ ds => decide (uptoBulkAll ds ≤ 1048576)
def OpenSpec.upto (s : _root_.Go.ChangeSpec) : _root_.Go.OpenSpec := { _root_.Go.OpenSpec.ofChange s with cond := some uptoSmall }

/-- 'dendronlaw10.RouteLefts', WHERE WHAT IT READS IS OF BULK AT MOST 1048576: true; the input reads as it did. -/
def routeLeftsUptoRow : OpenClaim := { program := "ytflagjfdamgknaadoor", sum := "5e385962ecdd9ee5fa92daf9ac10f603c7aa0276a8bec06327b9244fe1612ff3", func := "dendron/dendronlaw10.RouteLefts", spec := "routeLefts", named := ["math/bits.deBruijn64tab"], apart := false, laid := [("math/bits.deBruijn64tab", laid_math_bits_deBruijn64tab)], narrowed := true }
def RouteLeftsUptoSaid : Prop := routeLeftsUptoRow.holds Tryd.pinned (OpenSpec.upto routeLeftsSpec)

/-- 'dendronlaw10.RoutePredicts', WHERE WHAT IT READS IS OF BULK AT MOST 1048576: true; the input reads as it did. -/
def routePredictsUptoRow : OpenClaim := { program := "ytflagjfdamgknaadoor", sum := "5e385962ecdd9ee5fa92daf9ac10f603c7aa0276a8bec06327b9244fe1612ff3", func := "dendron/dendronlaw10.RoutePredicts", spec := "routePredicts", recurses := true, named := ["math/bits.deBruijn64tab"], apart := false, laid := [("math/bits.deBruijn64tab", laid_math_bits_deBruijn64tab)], narrowed := true }
def RoutePredictsUptoSaid : Prop := routePredictsUptoRow.holds Tryd.pinned (OpenSpec.upto routePredictsSpec)

/-- 'dendronlaw10.RouteWays', WHERE WHAT IT READS IS OF BULK AT MOST 1048576: true; the input reads as it did. -/
def routeWaysUptoRow : OpenClaim := { program := "ytflagjfdamgknaadoor", sum := "5e385962ecdd9ee5fa92daf9ac10f603c7aa0276a8bec06327b9244fe1612ff3", func := "dendron/dendronlaw10.RouteWays", spec := "routeWays", recurses := true, named := ["math/bits.deBruijn64tab"], apart := false, laid := [("math/bits.deBruijn64tab", laid_math_bits_deBruijn64tab)], narrowed := true }
def RouteWaysUptoSaid : Prop := routeWaysUptoRow.holds Tryd.pinned (OpenSpec.upto routeWaysSpec)

/-- 'dendronlaw10.RouteCuts', WHERE WHAT IT READS IS OF BULK AT MOST 1048576: true; the input reads as it did. -/
def routeCutsUptoRow : OpenClaim := { program := "ytflagjfdamgknaadoor", sum := "5e385962ecdd9ee5fa92daf9ac10f603c7aa0276a8bec06327b9244fe1612ff3", func := "dendron/dendronlaw10.RouteCuts", spec := "routeCuts", named := ["math/bits.deBruijn64tab"], apart := false, laid := [("math/bits.deBruijn64tab", laid_math_bits_deBruijn64tab)], narrowed := true }
def RouteCutsUptoSaid : Prop := routeCutsUptoRow.holds Tryd.pinned (OpenSpec.upto routeCutsSpec)

/-- 'dendronlaw10.RouteStands', WHERE WHAT IT READS IS OF BULK AT MOST 1048576: true; the input reads as it did. -/
def routeStandsUptoRow : OpenClaim := { program := "ytflagjfdamgknaadoor", sum := "5e385962ecdd9ee5fa92daf9ac10f603c7aa0276a8bec06327b9244fe1612ff3", func := "dendron/dendronlaw10.RouteStands", spec := "routeStands", named := ["math/bits.deBruijn64tab"], apart := false, laid := [("math/bits.deBruijn64tab", laid_math_bits_deBruijn64tab)], narrowed := true }
def RouteStandsUptoSaid : Prop := routeStandsUptoRow.holds Tryd.pinned (OpenSpec.upto routeStandsSpec)

/-- 'dendronlaw11.ExpectReach', WHERE WHAT IT READS IS OF BULK AT MOST 1048576: true; the input reads as it did. -/
def expectReachUptoRow : OpenClaim := { program := "ytflagjfdamgknaadoor", sum := "5e385962ecdd9ee5fa92daf9ac10f603c7aa0276a8bec06327b9244fe1612ff3", func := "dendron/dendronlaw11.ExpectReach", spec := "expectReach", recurses := true, named := ["math/bits.deBruijn64tab"], apart := false, laid := [("math/bits.deBruijn64tab", laid_math_bits_deBruijn64tab)], narrowed := true }
def ExpectReachUptoSaid : Prop := expectReachUptoRow.holds Tryd.pinned (OpenSpec.upto expectReachSpec)

/-- 'dendronlaw11.ExpectBases', WHERE WHAT IT READS IS OF BULK AT MOST 1048576: true; the input reads as it did. -/
def expectBasesUptoRow : OpenClaim := { program := "ytflagjfdamgknaadoor", sum := "5e385962ecdd9ee5fa92daf9ac10f603c7aa0276a8bec06327b9244fe1612ff3", func := "dendron/dendronlaw11.ExpectBases", spec := "expectBases", recurses := true, named := ["math/bits.deBruijn64tab"], apart := false, laid := [("math/bits.deBruijn64tab", laid_math_bits_deBruijn64tab)], narrowed := true }
def ExpectBasesUptoSaid : Prop := expectBasesUptoRow.holds Tryd.pinned (OpenSpec.upto expectBasesSpec)

/-- 'dendronlaw11.ExpectAll', WHERE WHAT IT READS IS OF BULK AT MOST 1048576: true; the input reads as it did. -/
def expectAllUptoRow : OpenClaim := { program := "ytflagjfdamgknaadoor", sum := "5e385962ecdd9ee5fa92daf9ac10f603c7aa0276a8bec06327b9244fe1612ff3", func := "dendron/dendronlaw11.ExpectAll", spec := "expectAll", recurses := true, named := ["math/bits.deBruijn64tab"], apart := false, laid := [("math/bits.deBruijn64tab", laid_math_bits_deBruijn64tab)], narrowed := true }
def ExpectAllUptoSaid : Prop := expectAllUptoRow.holds Tryd.pinned (OpenSpec.upto expectAllSpec)

end Rows
end Go.Proofs.YtflagjfdamgknaaDoor
