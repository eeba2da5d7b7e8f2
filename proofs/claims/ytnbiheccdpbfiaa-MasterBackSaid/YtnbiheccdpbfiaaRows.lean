/-
  No cell of these rows narrows 'for every input' (looked for: loops, veiled, ifaces, maps, wideKeys, modest, calm, conditions, laid).
  DERIVED. THE GIVEN ROWS OF THIS SEAT. 6 by the template 'for every input the law returns true; each argument reads behind the call as it read before'; 0 by the template 'total and deterministic' (their statements: YtnbiheccdpbfiaaTotals.lean).
  GIVEN WITH THE SEED: the statements are not yours to turn. If you find one false, say at which input.
  Laid BY PROGRAM, IN A SANDBOX (cutbox-rows.mjs): the forced cells as the released guide's own fill.sh prints them over the translation c23d3b9059f29d70… (all of the seat's roots in one cut). By AI agents, Wed Nov 11 2026. No macro, syntax, notation, axiom, sorry.
-/
import Derived.Test.YtnbiheccdpbfiaaChecked
import GoSem.Claim
import GoSem.ClaimJoined
import GoSem.ClaimMapViews
import Derived.JoinedTies
import Derived.KernelRfl
namespace Go.Proofs.Ytnbiheccdpbfiaa
/- THE CELL 'sum', in the pinned program and in every row, IS THE sha256 OF THE DUMP (.gsa) THAT YtnbiheccdpbfiaaProg.lean LOADS. Nothing in Lean hashes anything: it is a label: what it is worth is what the hold of that sum in a sandbox is worth. -/
noncomputable def Try.pinned : Pinned := { name := "ytnbiheccdpbfiaa", sum := "c23d3b9059f29d703296b3dac922b9c5b00b655b85ea4ecb003f88c92a98b4aa", checked := Try.checked }
namespace Rows
def none {H : Type} : Left H := { results := [], args := [] }

/-- 'purveyorlaw03.CodecReads': WHATEVER THE INPUT: true; the input reads as it did. -/
def codecReadsSpec : ChangeSpec := { name := "codecReads", fn := fun _ => fun
  | [d1, d2, d3] => { results := [.lit (.bool true)], args := [d1, d2, d3] }
  | _ => none }
def codecReadsRow : OpenClaim := { program := "ytnbiheccdpbfiaa", sum := "c23d3b9059f29d703296b3dac922b9c5b00b655b85ea4ecb003f88c92a98b4aa", func := "purveyor/purveyorlaw03.CodecReads", spec := "codecReads", inPlace := ["internal/abi.NoEscape"], unfollowed := true, recurses := true, apart := false }
def CodecReadsSaid : Prop := codecReadsRow.holds Try.pinned (OpenSpec.ofChange codecReadsSpec)

/-- ITS FALSE NEIGHBOUR: 'it returns false'. Refute it at one input. -/
def codecReadsWrong : ChangeSpec := { name := "codecReads", fn := fun _ => fun
  | [d1, d2, d3] => { results := [.lit (.bool false)], args := [d1, d2, d3] }
  | _ => none }
def CodecReadsWrongFalsely : Prop := codecReadsRow.holds Try.pinned (OpenSpec.ofChange codecReadsWrong)

/-- 'purveyorlaw03.CodecBack': WHATEVER THE INPUT: true; the input reads as it did. -/
def codecBackSpec : ChangeSpec := { name := "codecBack", fn := fun _ => fun
  | [d1, d2, d3] => { results := [.lit (.bool true)], args := [d1, d2, d3] }
  | _ => none }
def codecBackRow : OpenClaim := { program := "ytnbiheccdpbfiaa", sum := "c23d3b9059f29d703296b3dac922b9c5b00b655b85ea4ecb003f88c92a98b4aa", func := "purveyor/purveyorlaw03.CodecBack", spec := "codecBack", inPlace := ["internal/abi.NoEscape"], unfollowed := true, recurses := true, apart := false }
def CodecBackSaid : Prop := codecBackRow.holds Try.pinned (OpenSpec.ofChange codecBackSpec)

/-- ITS FALSE NEIGHBOUR: 'it returns false'. Refute it at one input. -/
def codecBackWrong : ChangeSpec := { name := "codecBack", fn := fun _ => fun
  | [d1, d2, d3] => { results := [.lit (.bool false)], args := [d1, d2, d3] }
  | _ => none }
def CodecBackWrongFalsely : Prop := codecBackRow.holds Try.pinned (OpenSpec.ofChange codecBackWrong)

/-- 'purveyorlaw03.CodecForms': WHATEVER THE INPUT: true; the input reads as it did. -/
def codecFormsSpec : ChangeSpec := { name := "codecForms", fn := fun _ => fun
  | [d1, d2, d3] => { results := [.lit (.bool true)], args := [d1, d2, d3] }
  | _ => none }
def codecFormsRow : OpenClaim := { program := "ytnbiheccdpbfiaa", sum := "c23d3b9059f29d703296b3dac922b9c5b00b655b85ea4ecb003f88c92a98b4aa", func := "purveyor/purveyorlaw03.CodecForms", spec := "codecForms", inPlace := ["internal/abi.NoEscape"], unfollowed := true, recurses := true, apart := false }
def CodecFormsSaid : Prop := codecFormsRow.holds Try.pinned (OpenSpec.ofChange codecFormsSpec)

/-- ITS FALSE NEIGHBOUR: 'it returns false'. Refute it at one input. -/
def codecFormsWrong : ChangeSpec := { name := "codecForms", fn := fun _ => fun
  | [d1, d2, d3] => { results := [.lit (.bool false)], args := [d1, d2, d3] }
  | _ => none }
def CodecFormsWrongFalsely : Prop := codecFormsRow.holds Try.pinned (OpenSpec.ofChange codecFormsWrong)

/-- 'purveyorlaw04.MasterAll': WHATEVER THE INPUT: true; the input reads as it did. -/
def masterAllSpec : ChangeSpec := { name := "masterAll", fn := fun _ => fun
  | [d1, d2, d3] => { results := [.lit (.bool true)], args := [d1, d2, d3] }
  | _ => none }
def masterAllRow : OpenClaim := { program := "ytnbiheccdpbfiaa", sum := "c23d3b9059f29d703296b3dac922b9c5b00b655b85ea4ecb003f88c92a98b4aa", func := "purveyor/purveyorlaw04.MasterAll", spec := "masterAll", inPlace := ["internal/abi.NoEscape"], unfollowed := true, recurses := true, apart := false }
def MasterAllSaid : Prop := masterAllRow.holds Try.pinned (OpenSpec.ofChange masterAllSpec)

/-- ITS FALSE NEIGHBOUR: 'it returns false'. Refute it at one input. -/
def masterAllWrong : ChangeSpec := { name := "masterAll", fn := fun _ => fun
  | [d1, d2, d3] => { results := [.lit (.bool false)], args := [d1, d2, d3] }
  | _ => none }
def MasterAllWrongFalsely : Prop := masterAllRow.holds Try.pinned (OpenSpec.ofChange masterAllWrong)

/-- 'purveyorlaw04.MasterBack': WHATEVER THE INPUT: true; the input reads as it did. -/
def masterBackSpec : ChangeSpec := { name := "masterBack", fn := fun _ => fun
  | [d1, d2, d3, d4] => { results := [.lit (.bool true)], args := [d1, d2, d3, d4] }
  | _ => none }
def masterBackRow : OpenClaim := { program := "ytnbiheccdpbfiaa", sum := "c23d3b9059f29d703296b3dac922b9c5b00b655b85ea4ecb003f88c92a98b4aa", func := "purveyor/purveyorlaw04.MasterBack", spec := "masterBack", inPlace := ["internal/abi.NoEscape"], unfollowed := true, recurses := true, apart := false }
def MasterBackSaid : Prop := masterBackRow.holds Try.pinned (OpenSpec.ofChange masterBackSpec)

/-- ITS FALSE NEIGHBOUR: 'it returns false'. Refute it at one input. -/
def masterBackWrong : ChangeSpec := { name := "masterBack", fn := fun _ => fun
  | [d1, d2, d3, d4] => { results := [.lit (.bool false)], args := [d1, d2, d3, d4] }
  | _ => none }
def MasterBackWrongFalsely : Prop := masterBackRow.holds Try.pinned (OpenSpec.ofChange masterBackWrong)

/-- 'purveyorlaw04.MasterStarts': WHATEVER THE INPUT: true; the input reads as it did. -/
def masterStartsSpec : ChangeSpec := { name := "masterStarts", fn := fun _ => fun
  | [d] => { results := [.lit (.bool true)], args := [d] }
  | _ => none }
def masterStartsRow : OpenClaim := { program := "ytnbiheccdpbfiaa", sum := "c23d3b9059f29d703296b3dac922b9c5b00b655b85ea4ecb003f88c92a98b4aa", func := "purveyor/purveyorlaw04.MasterStarts", spec := "masterStarts", inPlace := ["internal/abi.NoEscape"], unfollowed := true, recurses := true, apart := false }
def MasterStartsSaid : Prop := masterStartsRow.holds Try.pinned (OpenSpec.ofChange masterStartsSpec)

/-- ITS FALSE NEIGHBOUR: 'it returns false'. Refute it at one input. -/
def masterStartsWrong : ChangeSpec := { name := "masterStarts", fn := fun _ => fun
  | [d] => { results := [.lit (.bool false)], args := [d] }
  | _ => none }
def MasterStartsWrongFalsely : Prop := masterStartsRow.holds Try.pinned (OpenSpec.ofChange masterStartsWrong)

/- THE SECOND FORM. 'bulk': how many values and letters a reading holds, each counted each time it is reached (what is shared counts as often as it is met; a slice's spare places count too). A statement '..UptoSaid' is the law's where the arguments, and the package variables that the reading takes, are together of bulk at most 1048576: NARROWER than '..Said'. Prove '..Said' where nothing that the law and all that it calls make is longer than what came in: it says more and counts as full. Else prove '..UptoSaid'. A law counts once. -/
mutual
def uptoBulk {H : Type} : DataW H → Nat
  | .lit (.string bytes) => bytes.length + 1
  | .lit _ => 1
  | .nil => 1
  | .ptr d => uptoBulk d + 1
  | .slice elems spare => uptoBulkAll elems + uptoBulkAll spare + 1
  | .agg parts => uptoBulkAll parts + 1
  | .iface _ d => uptoBulk d + 1
  | .map entries => uptoBulkEntries entries + 1
  | .held _ => 1
def uptoBulkAll {H : Type} : List (DataW H) → Nat
  | [] => 0
  | d :: r => uptoBulk d + uptoBulkAll r
def uptoBulkEntries {H : Type} : List (Lit × DataW H) → Nat
  | [] => 0
  | x :: r => uptoBulkEntry x + uptoBulkEntries r
def uptoBulkEntry {H : Type} : Lit × DataW H → Nat
  | (.string bytes, d) => bytes.length + uptoBulk d + 1
  | (_, d) => uptoBulk d + 1
 end
def uptoSmall : (H : Type) → List (DataW H) → Bool := fun _ ds => decide (uptoBulkAll ds ≤ 1048576)
def OpenSpec.upto (s : _root_.Go.ChangeSpec) : _root_.Go.OpenSpec := { _root_.Go.OpenSpec.ofChange s with cond := some uptoSmall }

/-- 'purveyorlaw03.CodecReads', WHERE WHAT IT READS IS OF BULK AT MOST 1048576: true; the input reads as it did. -/
def codecReadsUptoRow : OpenClaim := { program := "ytnbiheccdpbfiaa", sum := "c23d3b9059f29d703296b3dac922b9c5b00b655b85ea4ecb003f88c92a98b4aa", func := "purveyor/purveyorlaw03.CodecReads", spec := "codecReads", inPlace := ["internal/abi.NoEscape"], unfollowed := true, recurses := true, apart := false, narrowed := true }
def CodecReadsUptoSaid : Prop := codecReadsUptoRow.holds Try.pinned (OpenSpec.upto codecReadsSpec)

/-- 'purveyorlaw03.CodecBack', WHERE WHAT IT READS IS OF BULK AT MOST 1048576: true; the input reads as it did. -/
def codecBackUptoRow : OpenClaim := { program := "ytnbiheccdpbfiaa", sum := "c23d3b9059f29d703296b3dac922b9c5b00b655b85ea4ecb003f88c92a98b4aa", func := "purveyor/purveyorlaw03.CodecBack", spec := "codecBack", inPlace := ["internal/abi.NoEscape"], unfollowed := true, recurses := true, apart := false, narrowed := true }
def CodecBackUptoSaid : Prop := codecBackUptoRow.holds Try.pinned (OpenSpec.upto codecBackSpec)

/-- 'purveyorlaw03.CodecForms', WHERE WHAT IT READS IS OF BULK AT MOST 1048576: true; the input reads as it did. -/
def codecFormsUptoRow : OpenClaim := { program := "ytnbiheccdpbfiaa", sum := "c23d3b9059f29d703296b3dac922b9c5b00b655b85ea4ecb003f88c92a98b4aa", func := "purveyor/purveyorlaw03.CodecForms", spec := "codecForms", inPlace := ["internal/abi.NoEscape"], unfollowed := true, recurses := true, apart := false, narrowed := true }
def CodecFormsUptoSaid : Prop := codecFormsUptoRow.holds Try.pinned (OpenSpec.upto codecFormsSpec)

/-- 'purveyorlaw04.MasterAll', WHERE WHAT IT READS IS OF BULK AT MOST 1048576: true; the input reads as it did. -/
def masterAllUptoRow : OpenClaim := { program := "ytnbiheccdpbfiaa", sum := "c23d3b9059f29d703296b3dac922b9c5b00b655b85ea4ecb003f88c92a98b4aa", func := "purveyor/purveyorlaw04.MasterAll", spec := "masterAll", inPlace := ["internal/abi.NoEscape"], unfollowed := true, recurses := true, apart := false, narrowed := true }
def MasterAllUptoSaid : Prop := masterAllUptoRow.holds Try.pinned (OpenSpec.upto masterAllSpec)

/-- 'purveyorlaw04.MasterBack', WHERE WHAT IT READS IS OF BULK AT MOST 1048576: true; the input reads as it did. -/
def masterBackUptoRow : OpenClaim := { program := "ytnbiheccdpbfiaa", sum := "c23d3b9059f29d703296b3dac922b9c5b00b655b85ea4ecb003f88c92a98b4aa", func := "purveyor/purveyorlaw04.MasterBack", spec := "masterBack", inPlace := ["internal/abi.NoEscape"], unfollowed := true, recurses := true, apart := false, narrowed := true }
def MasterBackUptoSaid : Prop := masterBackUptoRow.holds Try.pinned (OpenSpec.upto masterBackSpec)

/-- 'purveyorlaw04.MasterStarts', WHERE WHAT IT READS IS OF BULK AT MOST 1048576: true; the input reads as it did. -/
def masterStartsUptoRow : OpenClaim := { program := "ytnbiheccdpbfiaa", sum := "c23d3b9059f29d703296b3dac922b9c5b00b655b85ea4ecb003f88c92a98b4aa", func := "purveyor/purveyorlaw04.MasterStarts", spec := "masterStarts", inPlace := ["internal/abi.NoEscape"], unfollowed := true, recurses := true, apart := false, narrowed := true }
def MasterStartsUptoSaid : Prop := masterStartsUptoRow.holds Try.pinned (OpenSpec.upto masterStartsSpec)

end Rows
end Go.Proofs.Ytnbiheccdpbfiaa
