/-
  No cell of these rows narrows 'for every input' (looked for: loops, veiled, ifaces, maps, wideKeys, modest, calm, conditions, laid).
  DERIVED. THE GIVEN ROWS OF THIS SEAT. 7 by the template 'for every input the law returns true; each argument reads behind the call as it read before'; 0 by the template 'total and deterministic' (their statements: YtppokdmifjmdfaaGreatTotals.lean).
  GIVEN WITH THE SEED: the statements are not yours to turn. If you find one false, say at which input.
  Laid BY PROGRAM, IN A SANDBOX (cutbox-rows.mjs): the forced cells as the released guide's own fill.sh prints them over the translation 0d628a713aac9a4c… (all of the seat's roots in one cut). By AI agents, Wed Nov 11 2026. No macro, syntax, notation, axiom, sorry.
-/
import Derived.Test.YtppokdmifjmdfaaGreatChecked
import GoSem.Claim
import GoSem.ClaimJoined
import GoSem.ClaimMapViews
import Derived.JoinedTies
import Derived.KernelRfl
namespace Go.Proofs.YtppokdmifjmdfaaGreat
/- THE CELL 'sum', in the pinned program and in every row, IS THE sha256 OF THE DUMP (.gsa) THAT YtppokdmifjmdfaaGreatProg.lean LOADS. Nothing in Lean hashes anything: it is a label: what it is worth is what the hold of that sum in a sandbox is worth. -/
noncomputable def Tryz.pinned : Pinned := { name := "ytppokdmifjmdfaagreat", sum := "0d628a713aac9a4cd48ee80217442936d75e7378a3cafc6a56f2790c2ab45811", checked := Tryz.checked }
namespace Rows
def none {H : Type} : Left H := { results := [], args := [] }

/-- 'purveyorlaw17.AdjustCounts': WHATEVER THE INPUT: true; the input reads as it did. -/
def adjustCountsSpec : ChangeSpec := { name := "adjustCounts", fn := fun _ => fun
  | [d1, d2, d3] => { results := [.lit (.bool true)], args := [d1, d2, d3] }
  | _ => none }
def adjustCountsRow : OpenClaim := { program := "ytppokdmifjmdfaagreat", sum := "0d628a713aac9a4cd48ee80217442936d75e7378a3cafc6a56f2790c2ab45811", func := "purveyor/purveyorlaw17.AdjustCounts", spec := "adjustCounts", unfollowed := true, recurses := true, named := ["math/bits.divideError", "math/bits.overflowError"], apart := false }
def AdjustCountsSaid : Prop := adjustCountsRow.holds Tryz.pinned (OpenSpec.ofChange adjustCountsSpec)

/-- ITS FALSE NEIGHBOUR: 'it returns false'. Refute it at one input. -/
def adjustCountsWrong : ChangeSpec := { name := "adjustCounts", fn := fun _ => fun
  | [d1, d2, d3] => { results := [.lit (.bool false)], args := [d1, d2, d3] }
  | _ => none }
def AdjustCountsWrongFalsely : Prop := adjustCountsRow.holds Tryz.pinned (OpenSpec.ofChange adjustCountsWrong)

/-- 'purveyorlaw17.AdjustMoves': WHATEVER THE INPUT: true; the input reads as it did. -/
def adjustMovesSpec : ChangeSpec := { name := "adjustMoves", fn := fun _ => fun
  | [d1, d2, d3] => { results := [.lit (.bool true)], args := [d1, d2, d3] }
  | _ => none }
def adjustMovesRow : OpenClaim := { program := "ytppokdmifjmdfaagreat", sum := "0d628a713aac9a4cd48ee80217442936d75e7378a3cafc6a56f2790c2ab45811", func := "purveyor/purveyorlaw17.AdjustMoves", spec := "adjustMoves", unfollowed := true, recurses := true, named := ["math/bits.divideError", "math/bits.overflowError"], apart := false }
def AdjustMovesSaid : Prop := adjustMovesRow.holds Tryz.pinned (OpenSpec.ofChange adjustMovesSpec)

/-- ITS FALSE NEIGHBOUR: 'it returns false'. Refute it at one input. -/
def adjustMovesWrong : ChangeSpec := { name := "adjustMoves", fn := fun _ => fun
  | [d1, d2, d3] => { results := [.lit (.bool false)], args := [d1, d2, d3] }
  | _ => none }
def AdjustMovesWrongFalsely : Prop := adjustMovesRow.holds Tryz.pinned (OpenSpec.ofChange adjustMovesWrong)

/-- 'purveyorlaw17.AdjustRevalues': WHATEVER THE INPUT: true; the input reads as it did. -/
def adjustRevaluesSpec : ChangeSpec := { name := "adjustRevalues", fn := fun _ => fun
  | [d1, d2, d3] => { results := [.lit (.bool true)], args := [d1, d2, d3] }
  | _ => none }
def adjustRevaluesRow : OpenClaim := { program := "ytppokdmifjmdfaagreat", sum := "0d628a713aac9a4cd48ee80217442936d75e7378a3cafc6a56f2790c2ab45811", func := "purveyor/purveyorlaw17.AdjustRevalues", spec := "adjustRevalues", unfollowed := true, recurses := true, named := ["math/bits.divideError", "math/bits.overflowError"], apart := false }
def AdjustRevaluesSaid : Prop := adjustRevaluesRow.holds Tryz.pinned (OpenSpec.ofChange adjustRevaluesSpec)

/-- ITS FALSE NEIGHBOUR: 'it returns false'. Refute it at one input. -/
def adjustRevaluesWrong : ChangeSpec := { name := "adjustRevalues", fn := fun _ => fun
  | [d1, d2, d3] => { results := [.lit (.bool false)], args := [d1, d2, d3] }
  | _ => none }
def AdjustRevaluesWrongFalsely : Prop := adjustRevaluesRow.holds Tryz.pinned (OpenSpec.ofChange adjustRevaluesWrong)

/-- 'purveyorlaw20.ShipBooks': WHATEVER THE INPUT: true; the input reads as it did. -/
def shipBooksSpec : ChangeSpec := { name := "shipBooks", fn := fun _ => fun
  | [d1, d2, d3, d4] => { results := [.lit (.bool true)], args := [d1, d2, d3, d4] }
  | _ => none }
def shipBooksRow : OpenClaim := { program := "ytppokdmifjmdfaagreat", sum := "0d628a713aac9a4cd48ee80217442936d75e7378a3cafc6a56f2790c2ab45811", func := "purveyor/purveyorlaw20.ShipBooks", spec := "shipBooks", unfollowed := true, recurses := true, named := ["math/bits.divideError", "math/bits.overflowError"], apart := false }
def ShipBooksSaid : Prop := shipBooksRow.holds Tryz.pinned (OpenSpec.ofChange shipBooksSpec)

/-- ITS FALSE NEIGHBOUR: 'it returns false'. Refute it at one input. -/
def shipBooksWrong : ChangeSpec := { name := "shipBooks", fn := fun _ => fun
  | [d1, d2, d3, d4] => { results := [.lit (.bool false)], args := [d1, d2, d3, d4] }
  | _ => none }
def ShipBooksWrongFalsely : Prop := shipBooksRow.holds Tryz.pinned (OpenSpec.ofChange shipBooksWrong)

/-- 'purveyorlaw20.ShipLoss': WHATEVER THE INPUT: true; the input reads as it did. -/
def shipLossSpec : ChangeSpec := { name := "shipLoss", fn := fun _ => fun
  | [d1, d2, d3] => { results := [.lit (.bool true)], args := [d1, d2, d3] }
  | _ => none }
def shipLossRow : OpenClaim := { program := "ytppokdmifjmdfaagreat", sum := "0d628a713aac9a4cd48ee80217442936d75e7378a3cafc6a56f2790c2ab45811", func := "purveyor/purveyorlaw20.ShipLoss", spec := "shipLoss", unfollowed := true, recurses := true, named := ["math/bits.divideError", "math/bits.overflowError"], apart := false }
def ShipLossSaid : Prop := shipLossRow.holds Tryz.pinned (OpenSpec.ofChange shipLossSpec)

/-- ITS FALSE NEIGHBOUR: 'it returns false'. Refute it at one input. -/
def shipLossWrong : ChangeSpec := { name := "shipLoss", fn := fun _ => fun
  | [d1, d2, d3] => { results := [.lit (.bool false)], args := [d1, d2, d3] }
  | _ => none }
def ShipLossWrongFalsely : Prop := shipLossRow.holds Tryz.pinned (OpenSpec.ofChange shipLossWrong)

/-- 'purveyorlaw20.ShipChains': WHATEVER THE INPUT: true; the input reads as it did. -/
def shipChainsSpec : ChangeSpec := { name := "shipChains", fn := fun _ => fun
  | [d1, d2, d3] => { results := [.lit (.bool true)], args := [d1, d2, d3] }
  | _ => none }
def shipChainsRow : OpenClaim := { program := "ytppokdmifjmdfaagreat", sum := "0d628a713aac9a4cd48ee80217442936d75e7378a3cafc6a56f2790c2ab45811", func := "purveyor/purveyorlaw20.ShipChains", spec := "shipChains", unfollowed := true, recurses := true, named := ["math/bits.divideError", "math/bits.overflowError"], apart := false }
def ShipChainsSaid : Prop := shipChainsRow.holds Tryz.pinned (OpenSpec.ofChange shipChainsSpec)

/-- ITS FALSE NEIGHBOUR: 'it returns false'. Refute it at one input. -/
def shipChainsWrong : ChangeSpec := { name := "shipChains", fn := fun _ => fun
  | [d1, d2, d3] => { results := [.lit (.bool false)], args := [d1, d2, d3] }
  | _ => none }
def ShipChainsWrongFalsely : Prop := shipChainsRow.holds Tryz.pinned (OpenSpec.ofChange shipChainsWrong)

/-- 'purveyorlaw14.StockErrors': WHATEVER THE INPUT: true; the input reads as it did. -/
def stockErrorsSpec : ChangeSpec := { name := "stockErrors", fn := fun _ => fun
  | [d1, d2, d3, d4] => { results := [.lit (.bool true)], args := [d1, d2, d3, d4] }
  | _ => none }
def stockErrorsRow : OpenClaim := { program := "ytppokdmifjmdfaagreat", sum := "0d628a713aac9a4cd48ee80217442936d75e7378a3cafc6a56f2790c2ab45811", func := "purveyor/purveyorlaw14.StockErrors", spec := "stockErrors", unfollowed := true, recurses := true, apart := false }
def StockErrorsSaid : Prop := stockErrorsRow.holds Tryz.pinned (OpenSpec.ofChange stockErrorsSpec)

/-- ITS FALSE NEIGHBOUR: 'it returns false'. Refute it at one input. -/
def stockErrorsWrong : ChangeSpec := { name := "stockErrors", fn := fun _ => fun
  | [d1, d2, d3, d4] => { results := [.lit (.bool false)], args := [d1, d2, d3, d4] }
  | _ => none }
def StockErrorsWrongFalsely : Prop := stockErrorsRow.holds Tryz.pinned (OpenSpec.ofChange stockErrorsWrong)

/- THE SECOND FORM. 'bulk': how many values and letters a reading holds, each counted each time it is reached (what is shared counts as often as it is met; a slice's spare places count too). A statement '..UptoSaid' is the law's where the arguments, and the package variables that the reading takes, are together of bulk at most 1048576: NARROWER than '..Said'. Prove '..Said' where nothing that the law and all that it calls make is longer than what came in: it says more and counts as full. Else prove '..UptoSaid'. A law counts once. -/
mutual
def uptoBulk {H : Type} : DataW H → Nat
  | .lit (.string bytes) => bytes.length + 1
  | .lit _ => 1
  | .nil => 1
  | .ptr d => uptoBulk d + 1
  | .slice elems spare => uptoBulkAll elems + uptoBulkAll spare + 1
  | .agg parts => uptoBulkAll parts + 1
  | .iface _ d => uptoBulk d + 1
  | .map entries => uptoBulkEntries entries + 1
  | .held _ => 1
def uptoBulkAll {H : Type} : List (DataW H) → Nat
  | [] => 0
  | d :: r => uptoBulk d + uptoBulkAll r
def uptoBulkEntries {H : Type} : List (Lit × DataW H) → Nat
  | [] => 0
  | x :: r => uptoBulkEntry x + uptoBulkEntries r
def uptoBulkEntry {H : Type} : Lit × DataW H → Nat
  | (.string bytes, d) => bytes.length + uptoBulk d + 1
  | (_, d) => uptoBulk d + 1
 end
def uptoSmall : (H : Type) → List (DataW H) → Bool := fun _ ds => decide (uptoBulkAll ds ≤ 1048576)
def OpenSpec.upto (s : _root_.Go.ChangeSpec) : _root_.Go.OpenSpec := { _root_.Go.OpenSpec.ofChange s with cond := some uptoSmall }

/-- 'purveyorlaw17.AdjustCounts', WHERE WHAT IT READS IS OF BULK AT MOST 1048576: true; the input reads as it did. -/
def adjustCountsUptoRow : OpenClaim := { program := "ytppokdmifjmdfaagreat", sum := "0d628a713aac9a4cd48ee80217442936d75e7378a3cafc6a56f2790c2ab45811", func := "purveyor/purveyorlaw17.AdjustCounts", spec := "adjustCounts", unfollowed := true, recurses := true, named := ["math/bits.divideError", "math/bits.overflowError"], apart := false, narrowed := true }
def AdjustCountsUptoSaid : Prop := adjustCountsUptoRow.holds Tryz.pinned (OpenSpec.upto adjustCountsSpec)

/-- 'purveyorlaw17.AdjustMoves', WHERE WHAT IT READS IS OF BULK AT MOST 1048576: true; the input reads as it did. -/
def adjustMovesUptoRow : OpenClaim := { program := "ytppokdmifjmdfaagreat", sum := "0d628a713aac9a4cd48ee80217442936d75e7378a3cafc6a56f2790c2ab45811", func := "purveyor/purveyorlaw17.AdjustMoves", spec := "adjustMoves", unfollowed := true, recurses := true, named := ["math/bits.divideError", "math/bits.overflowError"], apart := false, narrowed := true }
def AdjustMovesUptoSaid : Prop := adjustMovesUptoRow.holds Tryz.pinned (OpenSpec.upto adjustMovesSpec)

/-- 'purveyorlaw17.AdjustRevalues', WHERE WHAT IT READS IS OF BULK AT MOST 1048576: true; the input reads as it did. -/
def adjustRevaluesUptoRow : OpenClaim := { program := "ytppokdmifjmdfaagreat", sum := "0d628a713aac9a4cd48ee80217442936d75e7378a3cafc6a56f2790c2ab45811", func := "purveyor/purveyorlaw17.AdjustRevalues", spec := "adjustRevalues", unfollowed := true, recurses := true, named := ["math/bits.divideError", "math/bits.overflowError"], apart := false, narrowed := true }
def AdjustRevaluesUptoSaid : Prop := adjustRevaluesUptoRow.holds Tryz.pinned (OpenSpec.upto adjustRevaluesSpec)

/-- 'purveyorlaw20.ShipBooks', WHERE WHAT IT READS IS OF BULK AT MOST 1048576: true; the input reads as it did. -/
def shipBooksUptoRow : OpenClaim := { program := "ytppokdmifjmdfaagreat", sum := "0d628a713aac9a4cd48ee80217442936d75e7378a3cafc6a56f2790c2ab45811", func := "purveyor/purveyorlaw20.ShipBooks", spec := "shipBooks", unfollowed := true, recurses := true, named := ["math/bits.divideError", "math/bits.overflowError"], apart := false, narrowed := true }
def ShipBooksUptoSaid : Prop := shipBooksUptoRow.holds Tryz.pinned (OpenSpec.upto shipBooksSpec)

/-- 'purveyorlaw20.ShipLoss', WHERE WHAT IT READS IS OF BULK AT MOST 1048576: true; the input reads as it did. -/
def shipLossUptoRow : OpenClaim := { program := "ytppokdmifjmdfaagreat", sum := "0d628a713aac9a4cd48ee80217442936d75e7378a3cafc6a56f2790c2ab45811", func := "purveyor/purveyorlaw20.ShipLoss", spec := "shipLoss", unfollowed := true, recurses := true, named := ["math/bits.divideError", "math/bits.overflowError"], apart := false, narrowed := true }
def ShipLossUptoSaid : Prop := shipLossUptoRow.holds Tryz.pinned (OpenSpec.upto shipLossSpec)

/-- 'purveyorlaw20.ShipChains', WHERE WHAT IT READS IS OF BULK AT MOST 1048576: true; the input reads as it did. -/
def shipChainsUptoRow : OpenClaim := { program := "ytppokdmifjmdfaagreat", sum := "0d628a713aac9a4cd48ee80217442936d75e7378a3cafc6a56f2790c2ab45811", func := "purveyor/purveyorlaw20.ShipChains", spec := "shipChains", unfollowed := true, recurses := true, named := ["math/bits.divideError", "math/bits.overflowError"], apart := false, narrowed := true }
def ShipChainsUptoSaid : Prop := shipChainsUptoRow.holds Tryz.pinned (OpenSpec.upto shipChainsSpec)

/-- 'purveyorlaw14.StockErrors', WHERE WHAT IT READS IS OF BULK AT MOST 1048576: true; the input reads as it did. -/
def stockErrorsUptoRow : OpenClaim := { program := "ytppokdmifjmdfaagreat", sum := "0d628a713aac9a4cd48ee80217442936d75e7378a3cafc6a56f2790c2ab45811", func := "purveyor/purveyorlaw14.StockErrors", spec := "stockErrors", unfollowed := true, recurses := true, apart := false, narrowed := true }
def StockErrorsUptoSaid : Prop := stockErrorsUptoRow.holds Tryz.pinned (OpenSpec.upto stockErrorsSpec)

end Rows
end Go.Proofs.YtppokdmifjmdfaaGreat
