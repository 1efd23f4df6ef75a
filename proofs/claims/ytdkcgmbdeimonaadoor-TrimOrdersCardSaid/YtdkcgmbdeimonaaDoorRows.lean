/-
  NARROWER THAN 'FOR EVERY INPUT', by the rows' own cells (each row's printed sentence says how): RankOrders: laid · DependPlaces: laid · RankMedians: laid · RankShares: laid · RankCovers: laid · RankSpreads: laid · TrimOrders: laid.
  DERIVED. THE GIVEN ROWS OF THIS SEAT. 7 by the template 'for every input the law returns true; each argument reads behind the call as it read before'; 0 by the template 'total and deterministic' (their statements: YtdkcgmbdeimonaaDoorTotals.lean).
  GIVEN WITH THE SEED: the statements are not yours to turn. If you find one false, say at which input.
  Laid BY PROGRAM, IN A SANDBOX (cutbox-rows.mjs): the forced cells as the released guide's own fill.sh prints them over the translation 300e9a943bf8a3bc… (all of the seat's roots in one cut). By AI agents, Wed Nov 11 2026. No macro, syntax, notation, axiom, sorry.
-/
import Derived.Test.YtdkcgmbdeimonaaDoorChecked
import GoSem.Claim
import GoSem.ClaimJoined
import GoSem.ClaimMapViews
import Derived.JoinedTies
import Derived.KernelRfl
namespace Go.Proofs.YtdkcgmbdeimonaaDoor
/- THE CELL 'sum', in the pinned program and in every row, IS THE sha256 OF THE DUMP (.gsa) THAT YtdkcgmbdeimonaaDoorProg.lean LOADS. Nothing in Lean hashes anything: it is a label: what it is worth is what the hold of that sum in a sandbox is worth. -/
noncomputable def Tryd.pinned : Pinned := { name := "ytdkcgmbdeimonaadoor", sum := "300e9a943bf8a3bc3bd8f038d666333907c87151a98930a60411999ffa3de371", checked := Tryd.checked }
namespace Rows
def none {H : Type} : Left H := { results := [], args := [] }

/- WHAT THE LISTED PACKAGE-LEVEL VARIABLES READ AS WHEN THE CALL BEGINS. Each datum BY PROGRAM (the guide's laid-datum.mjs) off the statement by which the dump's own 'gosem.cut.vars' lays the variable. In a bare row this is a premise. The card (YtdkcgmbdeimonaaDoorCards.lean) ties it to the program's text. -/
def laid_math_bits_deBruijn64tab {H : Type} : DataW H := .agg [.lit (.int .u8 0), .lit (.int .u8 1), .lit (.int .u8 56), .lit (.int .u8 2), .lit (.int .u8 57), .lit (.int .u8 49), .lit (.int .u8 28), .lit (.int .u8 3), .lit (.int .u8 61), .lit (.int .u8 58), .lit (.int .u8 42), .lit (.int .u8 50), .lit (.int .u8 38), .lit (.int .u8 29), .lit (.int .u8 17), .lit (.int .u8 4), .lit (.int .u8 62), .lit (.int .u8 47), .lit (.int .u8 59), .lit (.int .u8 36), .lit (.int .u8 45), .lit (.int .u8 43), .lit (.int .u8 51), .lit (.int .u8 22), .lit (.int .u8 53), .lit (.int .u8 39), .lit (.int .u8 33), .lit (.int .u8 30), .lit (.int .u8 24), .lit (.int .u8 18), .lit (.int .u8 12), .lit (.int .u8 5), .lit (.int .u8 63), .lit (.int .u8 55), .lit (.int .u8 48), .lit (.int .u8 27), .lit (.int .u8 60), .lit (.int .u8 41), .lit (.int .u8 37), .lit (.int .u8 16), .lit (.int .u8 46), .lit (.int .u8 35), .lit (.int .u8 44), .lit (.int .u8 21), .lit (.int .u8 52), .lit (.int .u8 32), .lit (.int .u8 23), .lit (.int .u8 11), .lit (.int .u8 54), .lit (.int .u8 26), .lit (.int .u8 40), .lit (.int .u8 15), .lit (.int .u8 34), .lit (.int .u8 20), .lit (.int .u8 31), .lit (.int .u8 10), .lit (.int .u8 25), .lit (.int .u8 14), .lit (.int .u8 19), .lit (.int .u8 9), .lit (.int .u8 13), .lit (.int .u8 8), .lit (.int .u8 7), .lit (.int .u8 6)]

/-- 'dendronlaw27.RankOrders': WHATEVER THE INPUT: true; the input reads as it did. -/
def rankOrdersSpec : ChangeSpec := { name := "rankOrders", fn := fun _ => fun
  | [d1, d2] => { results := [.lit (.bool true)], args := [d1, d2] }
  | _ => none }
def rankOrdersRow : OpenClaim := { program := "ytdkcgmbdeimonaadoor", sum := "300e9a943bf8a3bc3bd8f038d666333907c87151a98930a60411999ffa3de371", func := "dendron/dendronlaw27.RankOrders", spec := "rankOrders", named := ["math/bits.deBruijn64tab"], apart := false, laid := [("math/bits.deBruijn64tab", laid_math_bits_deBruijn64tab)] }
def RankOrdersSaid : Prop := rankOrdersRow.holds Tryd.pinned (OpenSpec.ofChange rankOrdersSpec)

/-- ITS FALSE NEIGHBOUR: 'it returns false'. Refute it at one input. -/
def rankOrdersWrong : ChangeSpec := { name := "rankOrders", fn := fun _ => fun
  | [d1, d2] => { results := [.lit (.bool false)], args := [d1, d2] }
  | _ => none }
def RankOrdersWrongFalsely : Prop := rankOrdersRow.holds Tryd.pinned (OpenSpec.ofChange rankOrdersWrong)

/-- 'dendronlaw13.DependPlaces': WHATEVER THE INPUT: true; the input reads as it did. -/
def dependPlacesSpec : ChangeSpec := { name := "dependPlaces", fn := fun _ => fun
  | [d1, d2] => { results := [.lit (.bool true)], args := [d1, d2] }
  | _ => none }
def dependPlacesRow : OpenClaim := { program := "ytdkcgmbdeimonaadoor", sum := "300e9a943bf8a3bc3bd8f038d666333907c87151a98930a60411999ffa3de371", func := "dendron/dendronlaw13.DependPlaces", spec := "dependPlaces", named := ["math/bits.deBruijn64tab"], apart := false, laid := [("math/bits.deBruijn64tab", laid_math_bits_deBruijn64tab)] }
def DependPlacesSaid : Prop := dependPlacesRow.holds Tryd.pinned (OpenSpec.ofChange dependPlacesSpec)

/-- ITS FALSE NEIGHBOUR: 'it returns false'. Refute it at one input. -/
def dependPlacesWrong : ChangeSpec := { name := "dependPlaces", fn := fun _ => fun
  | [d1, d2] => { results := [.lit (.bool false)], args := [d1, d2] }
  | _ => none }
def DependPlacesWrongFalsely : Prop := dependPlacesRow.holds Tryd.pinned (OpenSpec.ofChange dependPlacesWrong)

/-- 'dendronlaw27.RankMedians': WHATEVER THE INPUT: true; the input reads as it did. -/
def rankMediansSpec : ChangeSpec := { name := "rankMedians", fn := fun _ => fun
  | [d] => { results := [.lit (.bool true)], args := [d] }
  | _ => none }
def rankMediansRow : OpenClaim := { program := "ytdkcgmbdeimonaadoor", sum := "300e9a943bf8a3bc3bd8f038d666333907c87151a98930a60411999ffa3de371", func := "dendron/dendronlaw27.RankMedians", spec := "rankMedians", named := ["math/bits.deBruijn64tab"], apart := false, laid := [("math/bits.deBruijn64tab", laid_math_bits_deBruijn64tab)] }
def RankMediansSaid : Prop := rankMediansRow.holds Tryd.pinned (OpenSpec.ofChange rankMediansSpec)

/-- ITS FALSE NEIGHBOUR: 'it returns false'. Refute it at one input. -/
def rankMediansWrong : ChangeSpec := { name := "rankMedians", fn := fun _ => fun
  | [d] => { results := [.lit (.bool false)], args := [d] }
  | _ => none }
def RankMediansWrongFalsely : Prop := rankMediansRow.holds Tryd.pinned (OpenSpec.ofChange rankMediansWrong)

/-- 'dendronlaw27.RankShares': WHATEVER THE INPUT: true; the input reads as it did. -/
def rankSharesSpec : ChangeSpec := { name := "rankShares", fn := fun _ => fun
  | [d] => { results := [.lit (.bool true)], args := [d] }
  | _ => none }
def rankSharesRow : OpenClaim := { program := "ytdkcgmbdeimonaadoor", sum := "300e9a943bf8a3bc3bd8f038d666333907c87151a98930a60411999ffa3de371", func := "dendron/dendronlaw27.RankShares", spec := "rankShares", named := ["math/bits.deBruijn64tab"], apart := false, laid := [("math/bits.deBruijn64tab", laid_math_bits_deBruijn64tab)] }
def RankSharesSaid : Prop := rankSharesRow.holds Tryd.pinned (OpenSpec.ofChange rankSharesSpec)

/-- ITS FALSE NEIGHBOUR: 'it returns false'. Refute it at one input. -/
def rankSharesWrong : ChangeSpec := { name := "rankShares", fn := fun _ => fun
  | [d] => { results := [.lit (.bool false)], args := [d] }
  | _ => none }
def RankSharesWrongFalsely : Prop := rankSharesRow.holds Tryd.pinned (OpenSpec.ofChange rankSharesWrong)

/-- 'dendronlaw27.RankCovers': WHATEVER THE INPUT: true; the input reads as it did. -/
def rankCoversSpec : ChangeSpec := { name := "rankCovers", fn := fun _ => fun
  | [d1, d2] => { results := [.lit (.bool true)], args := [d1, d2] }
  | _ => none }
def rankCoversRow : OpenClaim := { program := "ytdkcgmbdeimonaadoor", sum := "300e9a943bf8a3bc3bd8f038d666333907c87151a98930a60411999ffa3de371", func := "dendron/dendronlaw27.RankCovers", spec := "rankCovers", named := ["math/bits.deBruijn64tab"], apart := false, laid := [("math/bits.deBruijn64tab", laid_math_bits_deBruijn64tab)] }
def RankCoversSaid : Prop := rankCoversRow.holds Tryd.pinned (OpenSpec.ofChange rankCoversSpec)

/-- ITS FALSE NEIGHBOUR: 'it returns false'. Refute it at one input. -/
def rankCoversWrong : ChangeSpec := { name := "rankCovers", fn := fun _ => fun
  | [d1, d2] => { results := [.lit (.bool false)], args := [d1, d2] }
  | _ => none }
def RankCoversWrongFalsely : Prop := rankCoversRow.holds Tryd.pinned (OpenSpec.ofChange rankCoversWrong)

/-- 'dendronlaw27.RankSpreads': WHATEVER THE INPUT: true; the input reads as it did. -/
def rankSpreadsSpec : ChangeSpec := { name := "rankSpreads", fn := fun _ => fun
  | [d] => { results := [.lit (.bool true)], args := [d] }
  | _ => none }
def rankSpreadsRow : OpenClaim := { program := "ytdkcgmbdeimonaadoor", sum := "300e9a943bf8a3bc3bd8f038d666333907c87151a98930a60411999ffa3de371", func := "dendron/dendronlaw27.RankSpreads", spec := "rankSpreads", named := ["math/bits.deBruijn64tab"], apart := false, laid := [("math/bits.deBruijn64tab", laid_math_bits_deBruijn64tab)] }
def RankSpreadsSaid : Prop := rankSpreadsRow.holds Tryd.pinned (OpenSpec.ofChange rankSpreadsSpec)

/-- ITS FALSE NEIGHBOUR: 'it returns false'. Refute it at one input. -/
def rankSpreadsWrong : ChangeSpec := { name := "rankSpreads", fn := fun _ => fun
  | [d] => { results := [.lit (.bool false)], args := [d] }
  | _ => none }
def RankSpreadsWrongFalsely : Prop := rankSpreadsRow.holds Tryd.pinned (OpenSpec.ofChange rankSpreadsWrong)

/-- 'dendronlaw25.TrimOrders': WHATEVER THE INPUT: true; the input reads as it did. -/
def trimOrdersSpec : ChangeSpec := { name := "trimOrders", fn := fun _ => fun
  | [d1, d2] => { results := [.lit (.bool true)], args := [d1, d2] }
  | _ => none }
def trimOrdersRow : OpenClaim := { program := "ytdkcgmbdeimonaadoor", sum := "300e9a943bf8a3bc3bd8f038d666333907c87151a98930a60411999ffa3de371", func := "dendron/dendronlaw25.TrimOrders", spec := "trimOrders", recurses := true, named := ["math/bits.deBruijn64tab"], apart := false, laid := [("math/bits.deBruijn64tab", laid_math_bits_deBruijn64tab)] }
def TrimOrdersSaid : Prop := trimOrdersRow.holds Tryd.pinned (OpenSpec.ofChange trimOrdersSpec)

/-- ITS FALSE NEIGHBOUR: 'it returns false'. Refute it at one input. -/
def trimOrdersWrong : ChangeSpec := { name := "trimOrders", fn := fun _ => fun
  | [d1, d2] => { results := [.lit (.bool false)], args := [d1, d2] }
  | _ => none }
def TrimOrdersWrongFalsely : Prop := trimOrdersRow.holds Tryd.pinned (OpenSpec.ofChange trimOrdersWrong)

/- THE SECOND FORM. 'bulk': how many values and letters a reading holds, each counted each time it is reached (what is shared counts as often as it is met; a slice's spare places count too). A statement '..UptoSaid' is the law's where the arguments, and the package variables that the reading takes, are together of bulk at most 1048576: NARROWER than '..Said'. Prove '..Said' where nothing that the law and all that it calls make is longer than what came in: it says more and counts as full. Else prove '..UptoSaid'. A law counts once. -/
mutual
def uptoBulk {H : Type} : DataW H → Nat
  | .lit (.string bytes) => bytes.length + 1
  | .lit _ => 1
  | .nil => 1
  | .ptr d => uptoBulk d + 1
  | .slice elems spare => uptoBulkAll elems + uptoBulkAll spare + 1
  | .agg parts => uptoBulkAll parts + 1
  | .iface _ d => uptoBulk d + 1
  | .map entries => uptoBulkEntries entries + 1
  | .held _ => 1
def uptoBulkAll {H : Type} : List (DataW H) → Nat
  | [] => 0
  | d :: r => uptoBulk d + uptoBulkAll r
def uptoBulkEntries {H : Type} : List (Lit × DataW H) → Nat
  | [] => 0
  | x :: r => uptoBulkEntry x + uptoBulkEntries r
def uptoBulkEntry {H : Type} : Lit × DataW H → Nat
  | (.string bytes, d) => bytes.length + uptoBulk d + 1
  | (_, d) => uptoBulk d + 1
 end
def uptoSmall : (H : Type) → List (DataW H) → Bool := fun _ ds => decide (uptoBulkAll ds ≤ 1048576)
def OpenSpec.upto (s : _root_.Go.ChangeSpec) : _root_.Go.OpenSpec := { _root_.Go.OpenSpec.ofChange s with cond := some uptoSmall }

/-- 'dendronlaw27.RankOrders', WHERE WHAT IT READS IS OF BULK AT MOST 1048576: true; the input reads as it did. -/
def rankOrdersUptoRow : OpenClaim := { program := "ytdkcgmbdeimonaadoor", sum := "300e9a943bf8a3bc3bd8f038d666333907c87151a98930a60411999ffa3de371", func := "dendron/dendronlaw27.RankOrders", spec := "rankOrders", named := ["math/bits.deBruijn64tab"], apart := false, laid := [("math/bits.deBruijn64tab", laid_math_bits_deBruijn64tab)], narrowed := true }
def RankOrdersUptoSaid : Prop := rankOrdersUptoRow.holds Tryd.pinned (OpenSpec.upto rankOrdersSpec)

/-- 'dendronlaw13.DependPlaces', WHERE WHAT IT READS IS OF BULK AT MOST 1048576: true; the input reads as it did. -/
def dependPlacesUptoRow : OpenClaim := { program := "ytdkcgmbdeimonaadoor", sum := "300e9a943bf8a3bc3bd8f038d666333907c87151a98930a60411999ffa3de371", func := "dendron/dendronlaw13.DependPlaces", spec := "dependPlaces", named := ["math/bits.deBruijn64tab"], apart := false, laid := [("math/bits.deBruijn64tab", laid_math_bits_deBruijn64tab)], narrowed := true }
def DependPlacesUptoSaid : Prop := dependPlacesUptoRow.holds Tryd.pinned (OpenSpec.upto dependPlacesSpec)

/-- 'dendronlaw27.RankMedians', WHERE WHAT IT READS IS OF BULK AT MOST 1048576: true; the input reads as it did. -/
def rankMediansUptoRow : OpenClaim := { program := "ytdkcgmbdeimonaadoor", sum := "300e9a943bf8a3bc3bd8f038d666333907c87151a98930a60411999ffa3de371", func := "dendron/dendronlaw27.RankMedians", spec := "rankMedians", named := ["math/bits.deBruijn64tab"], apart := false, laid := [("math/bits.deBruijn64tab", laid_math_bits_deBruijn64tab)], narrowed := true }
def RankMediansUptoSaid : Prop := rankMediansUptoRow.holds Tryd.pinned (OpenSpec.upto rankMediansSpec)

/-- 'dendronlaw27.RankShares', WHERE WHAT IT READS IS OF BULK AT MOST 1048576: true; the input reads as it did. -/
def rankSharesUptoRow : OpenClaim := { program := "ytdkcgmbdeimonaadoor", sum := "300e9a943bf8a3bc3bd8f038d666333907c87151a98930a60411999ffa3de371", func := "dendron/dendronlaw27.RankShares", spec := "rankShares", named := ["math/bits.deBruijn64tab"], apart := false, laid := [("math/bits.deBruijn64tab", laid_math_bits_deBruijn64tab)], narrowed := true }
def RankSharesUptoSaid : Prop := rankSharesUptoRow.holds Tryd.pinned (OpenSpec.upto rankSharesSpec)

/-- 'dendronlaw27.RankCovers', WHERE WHAT IT READS IS OF BULK AT MOST 1048576: true; the input reads as it did. -/
def rankCoversUptoRow : OpenClaim := { program := "ytdkcgmbdeimonaadoor", sum := "300e9a943bf8a3bc3bd8f038d666333907c87151a98930a60411999ffa3de371", func := "dendron/dendronlaw27.RankCovers", spec := "rankCovers", named := ["math/bits.deBruijn64tab"], apart := false, laid := [("math/bits.deBruijn64tab", laid_math_bits_deBruijn64tab)], narrowed := true }
def RankCoversUptoSaid : Prop := rankCoversUptoRow.holds Tryd.pinned (OpenSpec.upto rankCoversSpec)

/-- 'dendronlaw27.RankSpreads', WHERE WHAT IT READS IS OF BULK AT MOST 1048576: true; the input reads as it did. -/
def rankSpreadsUptoRow : OpenClaim := { program := "ytdkcgmbdeimonaadoor", sum := "300e9a943bf8a3bc3bd8f038d666333907c87151a98930a60411999ffa3de371", func := "dendron/dendronlaw27.RankSpreads", spec := "rankSpreads", named := ["math/bits.deBruijn64tab"], apart := false, laid := [("math/bits.deBruijn64tab", laid_math_bits_deBruijn64tab)], narrowed := true }
def RankSpreadsUptoSaid : Prop := rankSpreadsUptoRow.holds Tryd.pinned (OpenSpec.upto rankSpreadsSpec)

/-- 'dendronlaw25.TrimOrders', WHERE WHAT IT READS IS OF BULK AT MOST 1048576: true; the input reads as it did. -/
def trimOrdersUptoRow : OpenClaim := { program := "ytdkcgmbdeimonaadoor", sum := "300e9a943bf8a3bc3bd8f038d666333907c87151a98930a60411999ffa3de371", func := "dendron/dendronlaw25.TrimOrders", spec := "trimOrders", recurses := true, named := ["math/bits.deBruijn64tab"], apart := false, laid := [("math/bits.deBruijn64tab", laid_math_bits_deBruijn64tab)], narrowed := true }
def TrimOrdersUptoSaid : Prop := trimOrdersUptoRow.holds Tryd.pinned (OpenSpec.upto trimOrdersSpec)

end Rows
end Go.Proofs.YtdkcgmbdeimonaaDoor
