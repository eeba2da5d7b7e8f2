/-
  No cell of these rows narrows 'for every input' (looked for: loops, veiled, ifaces, maps, wideKeys, modest, calm, conditions, laid).
  DERIVED. THE GIVEN ROWS OF THIS SEAT. 4 by the template 'for every input the law returns true; each argument reads behind the call as it read before'; 0 by the template 'total and deterministic' (their statements: YtkinibckmebacaaGreatTotals.lean).
  GIVEN WITH THE SEED: the statements are not yours to turn. If you find one false, say at which input.
  Laid BY PROGRAM, IN A SANDBOX (cutbox-rows.mjs): the forced cells as the released guide's own fill.sh prints them over the translation fc76ee8537bd66d7… (all of the seat's roots in one cut). By AI agents, Wed Nov 11 2026. No macro, syntax, notation, axiom, sorry.
-/
import Derived.Test.YtkinibckmebacaaGreatChecked
import GoSem.Claim
import GoSem.ClaimJoined
import GoSem.ClaimMapViews
import Derived.JoinedTies
import Derived.KernelRfl
namespace Go.Proofs.YtkinibckmebacaaGreat
/- THE CELL 'sum', in the pinned program and in every row, IS THE sha256 OF THE DUMP (.gsa) THAT YtkinibckmebacaaGreatProg.lean LOADS. Nothing in Lean hashes anything: it is a label: what it is worth is what the hold of that sum in a sandbox is worth. -/
noncomputable def Tryz.pinned : Pinned := { name := "ytkinibckmebacaagreat", sum := "fc76ee8537bd66d7c90e434a944f7d0875cf2b7cba7f6810c18e28507d7dc9be", checked := Tryz.checked }
namespace Rows
def none {H : Type} : Left H := { results := [], args := [] }

/-- 'purveyorlaw22.ApplyFull': WHATEVER THE INPUT: true; the input reads as it did. -/
def applyFullSpec : ChangeSpec := { name := "applyFull", fn := fun _ => fun
  | [d] => { results := [.lit (.bool true)], args := [d] }
  | _ => none }
def applyFullRow : OpenClaim := { program := "ytkinibckmebacaagreat", sum := "fc76ee8537bd66d7c90e434a944f7d0875cf2b7cba7f6810c18e28507d7dc9be", func := "purveyor/purveyorlaw22.ApplyFull", spec := "applyFull", inPlace := ["internal/bytealg.IndexByteString", "internal/bytealg.IndexString"], unfollowed := true, recurses := true, named := ["math/bits.divideError", "math/bits.overflowError", "internal/bytealg.MaxLen"], apart := false }
def ApplyFullSaid : Prop := applyFullRow.holds Tryz.pinned (OpenSpec.ofChange applyFullSpec)

/-- ITS FALSE NEIGHBOUR: 'it returns false'. Refute it at one input. -/
def applyFullWrong : ChangeSpec := { name := "applyFull", fn := fun _ => fun
  | [d] => { results := [.lit (.bool false)], args := [d] }
  | _ => none }
def ApplyFullWrongFalsely : Prop := applyFullRow.holds Tryz.pinned (OpenSpec.ofChange applyFullWrong)

/-- 'purveyorlaw22.ApplyClosed': WHATEVER THE INPUT: true; the input reads as it did. -/
def applyClosedSpec : ChangeSpec := { name := "applyClosed", fn := fun _ => fun
  | [d1, d2] => { results := [.lit (.bool true)], args := [d1, d2] }
  | _ => none }
def applyClosedRow : OpenClaim := { program := "ytkinibckmebacaagreat", sum := "fc76ee8537bd66d7c90e434a944f7d0875cf2b7cba7f6810c18e28507d7dc9be", func := "purveyor/purveyorlaw22.ApplyClosed", spec := "applyClosed", inPlace := ["internal/bytealg.IndexByteString", "internal/bytealg.IndexString"], unfollowed := true, recurses := true, named := ["math/bits.divideError", "math/bits.overflowError", "internal/bytealg.MaxLen"], apart := false }
def ApplyClosedSaid : Prop := applyClosedRow.holds Tryz.pinned (OpenSpec.ofChange applyClosedSpec)

/-- ITS FALSE NEIGHBOUR: 'it returns false'. Refute it at one input. -/
def applyClosedWrong : ChangeSpec := { name := "applyClosed", fn := fun _ => fun
  | [d1, d2] => { results := [.lit (.bool false)], args := [d1, d2] }
  | _ => none }
def ApplyClosedWrongFalsely : Prop := applyClosedRow.holds Tryz.pinned (OpenSpec.ofChange applyClosedWrong)

/-- 'purveyorlaw23.CloseWaits': WHATEVER THE INPUT: true; the input reads as it did. -/
def closeWaitsSpec : ChangeSpec := { name := "closeWaits", fn := fun _ => fun
  | [d1, d2] => { results := [.lit (.bool true)], args := [d1, d2] }
  | _ => none }
def closeWaitsRow : OpenClaim := { program := "ytkinibckmebacaagreat", sum := "fc76ee8537bd66d7c90e434a944f7d0875cf2b7cba7f6810c18e28507d7dc9be", func := "purveyor/purveyorlaw23.CloseWaits", spec := "closeWaits", inPlace := ["internal/bytealg.IndexByteString", "internal/bytealg.IndexString"], unfollowed := true, recurses := true, named := ["math/bits.divideError", "math/bits.overflowError", "internal/bytealg.MaxLen"], apart := false }
def CloseWaitsSaid : Prop := closeWaitsRow.holds Tryz.pinned (OpenSpec.ofChange closeWaitsSpec)

/-- ITS FALSE NEIGHBOUR: 'it returns false'. Refute it at one input. -/
def closeWaitsWrong : ChangeSpec := { name := "closeWaits", fn := fun _ => fun
  | [d1, d2] => { results := [.lit (.bool false)], args := [d1, d2] }
  | _ => none }
def CloseWaitsWrongFalsely : Prop := closeWaitsRow.holds Tryz.pinned (OpenSpec.ofChange closeWaitsWrong)

/-- 'purveyorlaw23.CloseReturns': WHATEVER THE INPUT: true; the input reads as it did. -/
def closeReturnsSpec : ChangeSpec := { name := "closeReturns", fn := fun _ => fun
  | [d1, d2, d3] => { results := [.lit (.bool true)], args := [d1, d2, d3] }
  | _ => none }
def closeReturnsRow : OpenClaim := { program := "ytkinibckmebacaagreat", sum := "fc76ee8537bd66d7c90e434a944f7d0875cf2b7cba7f6810c18e28507d7dc9be", func := "purveyor/purveyorlaw23.CloseReturns", spec := "closeReturns", inPlace := ["internal/bytealg.IndexByteString", "internal/bytealg.IndexString"], unfollowed := true, recurses := true, named := ["math/bits.divideError", "math/bits.overflowError", "internal/bytealg.MaxLen"], apart := false }
def CloseReturnsSaid : Prop := closeReturnsRow.holds Tryz.pinned (OpenSpec.ofChange closeReturnsSpec)

/-- ITS FALSE NEIGHBOUR: 'it returns false'. Refute it at one input. -/
def closeReturnsWrong : ChangeSpec := { name := "closeReturns", fn := fun _ => fun
  | [d1, d2, d3] => { results := [.lit (.bool false)], args := [d1, d2, d3] }
  | _ => none }
def CloseReturnsWrongFalsely : Prop := closeReturnsRow.holds Tryz.pinned (OpenSpec.ofChange closeReturnsWrong)

/- THE SECOND FORM. 'bulk': how many values and letters a reading holds, each counted each time it is reached (what is shared counts as often as it is met; a slice's spare places count too). A statement '..UptoSaid' is the law's where the arguments, and the package variables that the reading takes, are together of bulk at most 1048576: NARROWER than '..Said'. Prove '..Said' where nothing that the law and all that it calls make is longer than what came in: it says more and counts as full. Else prove '..UptoSaid'. A law counts once. -/
mutual
def uptoBulk {H : Type} : DataW H → Nat
  | .lit (.string bytes) => bytes.length + 1
  | .lit _ => 1
  | .nil => 1
  | .ptr d => uptoBulk d + 1
  | .slice elems spare => uptoBulkAll elems + uptoBulkAll spare + 1
  | .agg parts => uptoBulkAll parts + 1
  | .iface _ d => uptoBulk d + 1
  | .map entries => uptoBulkEntries entries + 1
  | .held _ => 1
def uptoBulkAll {H : Type} : List (DataW H) → Nat
  | [] => 0
  | d :: r => uptoBulk d + uptoBulkAll r
def uptoBulkEntries {H : Type} : List (Lit × DataW H) → Nat
  | [] => 0
  | x :: r => uptoBulkEntry x + uptoBulkEntries r
def uptoBulkEntry {H : Type} : Lit × DataW H → Nat
  | (.string bytes, d) => bytes.length + uptoBulk d + 1
  | (_, d) => uptoBulk d + 1
 end
def uptoSmall : (H : Type) → List (DataW H) → Bool := fun _ ds => decide (uptoBulkAll ds ≤ 1048576)
def OpenSpec.upto (s : _root_.Go.ChangeSpec) : _root_.Go.OpenSpec := { _root_.Go.OpenSpec.ofChange s with cond := some uptoSmall }

/-- 'purveyorlaw22.ApplyFull', WHERE WHAT IT READS IS OF BULK AT MOST 1048576: true; the input reads as it did. -/
def applyFullUptoRow : OpenClaim := { program := "ytkinibckmebacaagreat", sum := "fc76ee8537bd66d7c90e434a944f7d0875cf2b7cba7f6810c18e28507d7dc9be", func := "purveyor/purveyorlaw22.ApplyFull", spec := "applyFull", inPlace := ["internal/bytealg.IndexByteString", "internal/bytealg.IndexString"], unfollowed := true, recurses := true, named := ["math/bits.divideError", "math/bits.overflowError", "internal/bytealg.MaxLen"], apart := false, narrowed := true }
def ApplyFullUptoSaid : Prop := applyFullUptoRow.holds Tryz.pinned (OpenSpec.upto applyFullSpec)

/-- 'purveyorlaw22.ApplyClosed', WHERE WHAT IT READS IS OF BULK AT MOST 1048576: true; the input reads as it did. -/
def applyClosedUptoRow : OpenClaim := { program := "ytkinibckmebacaagreat", sum := "fc76ee8537bd66d7c90e434a944f7d0875cf2b7cba7f6810c18e28507d7dc9be", func := "purveyor/purveyorlaw22.ApplyClosed", spec := "applyClosed", inPlace := ["internal/bytealg.IndexByteString", "internal/bytealg.IndexString"], unfollowed := true, recurses := true, named := ["math/bits.divideError", "math/bits.overflowError", "internal/bytealg.MaxLen"], apart := false, narrowed := true }
def ApplyClosedUptoSaid : Prop := applyClosedUptoRow.holds Tryz.pinned (OpenSpec.upto applyClosedSpec)

/-- 'purveyorlaw23.CloseWaits', WHERE WHAT IT READS IS OF BULK AT MOST 1048576: true; the input reads as it did. -/
def closeWaitsUptoRow : OpenClaim := { program := "ytkinibckmebacaagreat", sum := "fc76ee8537bd66d7c90e434a944f7d0875cf2b7cba7f6810c18e28507d7dc9be", func := "purveyor/purveyorlaw23.CloseWaits", spec := "closeWaits", inPlace := ["internal/bytealg.IndexByteString", "internal/bytealg.IndexString"], unfollowed := true, recurses := true, named := ["math/bits.divideError", "math/bits.overflowError", "internal/bytealg.MaxLen"], apart := false, narrowed := true }
def CloseWaitsUptoSaid : Prop := closeWaitsUptoRow.holds Tryz.pinned (OpenSpec.upto closeWaitsSpec)

/-- 'purveyorlaw23.CloseReturns', WHERE WHAT IT READS IS OF BULK AT MOST 1048576: true; the input reads as it did. -/
def closeReturnsUptoRow : OpenClaim := { program := "ytkinibckmebacaagreat", sum := "fc76ee8537bd66d7c90e434a944f7d0875cf2b7cba7f6810c18e28507d7dc9be", func := "purveyor/purveyorlaw23.CloseReturns", spec := "closeReturns", inPlace := ["internal/bytealg.IndexByteString", "internal/bytealg.IndexString"], unfollowed := true, recurses := true, named := ["math/bits.divideError", "math/bits.overflowError", "internal/bytealg.MaxLen"], apart := false, narrowed := true }
def CloseReturnsUptoSaid : Prop := closeReturnsUptoRow.holds Tryz.pinned (OpenSpec.upto closeReturnsSpec)

end Rows
end Go.Proofs.YtkinibckmebacaaGreat
