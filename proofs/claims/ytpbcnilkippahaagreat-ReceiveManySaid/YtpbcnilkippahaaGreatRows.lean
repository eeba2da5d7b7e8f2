/-
  No cell of these rows narrows 'for every input' (looked for: loops, veiled, ifaces, maps, wideKeys, modest, calm, conditions, laid).
  DERIVED. THE GIVEN ROWS OF THIS SEAT. 3 by the template 'for every input the law returns true; each argument reads behind the call as it read before'; 0 by the template 'total and deterministic' (their statements: YtpbcnilkippahaaGreatTotals.lean).
  GIVEN WITH THE SEED: the statements are not yours to turn. If you find one false, say at which input.
  Laid BY PROGRAM, IN A SANDBOX (cutbox-rows.mjs): the forced cells as the released guide's own fill.sh prints them over the translation c83ecd79cc834a2f… (all of the seat's roots in one cut). By AI agents, Wed Nov 11 2026. No macro, syntax, notation, axiom, sorry.
-/
import Derived.Test.YtpbcnilkippahaaGreatChecked
import GoSem.Claim
import GoSem.ClaimJoined
import GoSem.ClaimMapViews
import Derived.JoinedTies
import Derived.KernelRfl
namespace Go.Proofs.YtpbcnilkippahaaGreat
/- THE CELL 'sum', in the pinned program and in every row, IS THE sha256 OF THE DUMP (.gsa) THAT YtpbcnilkippahaaGreatProg.lean LOADS. Nothing in Lean hashes anything: it is a label: what it is worth is what the hold of that sum in a sandbox is worth. -/
noncomputable def Tryz.pinned : Pinned := { name := "ytpbcnilkippahaagreat", sum := "c83ecd79cc834a2f3e7f7940bc53917ce8544a277d4f39dac2009da897de0db2", checked := Tryz.checked }
namespace Rows
def none {H : Type} : Left H := { results := [], args := [] }

/-- 'purveyorlaw15.ReceiveErrors': WHATEVER THE INPUT: true; the input reads as it did. -/
def receiveErrorsSpec : ChangeSpec := { name := "receiveErrors", fn := fun _ => fun
  | [d1, d2] => { results := [.lit (.bool true)], args := [d1, d2] }
  | _ => none }
def receiveErrorsRow : OpenClaim := { program := "ytpbcnilkippahaagreat", sum := "c83ecd79cc834a2f3e7f7940bc53917ce8544a277d4f39dac2009da897de0db2", func := "purveyor/purveyorlaw15.ReceiveErrors", spec := "receiveErrors", unfollowed := true, recurses := true, apart := false }
def ReceiveErrorsSaid : Prop := receiveErrorsRow.holds Tryz.pinned (OpenSpec.ofChange receiveErrorsSpec)

/-- ITS FALSE NEIGHBOUR: 'it returns false'. Refute it at one input. -/
def receiveErrorsWrong : ChangeSpec := { name := "receiveErrors", fn := fun _ => fun
  | [d1, d2] => { results := [.lit (.bool false)], args := [d1, d2] }
  | _ => none }
def ReceiveErrorsWrongFalsely : Prop := receiveErrorsRow.holds Tryz.pinned (OpenSpec.ofChange receiveErrorsWrong)

/-- 'purveyorlaw15.ReceiveMany': WHATEVER THE INPUT: true; the input reads as it did. -/
def receiveManySpec : ChangeSpec := { name := "receiveMany", fn := fun _ => fun
  | [d] => { results := [.lit (.bool true)], args := [d] }
  | _ => none }
def receiveManyRow : OpenClaim := { program := "ytpbcnilkippahaagreat", sum := "c83ecd79cc834a2f3e7f7940bc53917ce8544a277d4f39dac2009da897de0db2", func := "purveyor/purveyorlaw15.ReceiveMany", spec := "receiveMany", unfollowed := true, recurses := true, apart := false }
def ReceiveManySaid : Prop := receiveManyRow.holds Tryz.pinned (OpenSpec.ofChange receiveManySpec)

/-- ITS FALSE NEIGHBOUR: 'it returns false'. Refute it at one input. -/
def receiveManyWrong : ChangeSpec := { name := "receiveMany", fn := fun _ => fun
  | [d] => { results := [.lit (.bool false)], args := [d] }
  | _ => none }
def ReceiveManyWrongFalsely : Prop := receiveManyRow.holds Tryz.pinned (OpenSpec.ofChange receiveManyWrong)

/-- 'purveyorlaw16.SellErrors': WHATEVER THE INPUT: true; the input reads as it did. -/
def sellErrorsSpec : ChangeSpec := { name := "sellErrors", fn := fun _ => fun
  | [d1, d2] => { results := [.lit (.bool true)], args := [d1, d2] }
  | _ => none }
def sellErrorsRow : OpenClaim := { program := "ytpbcnilkippahaagreat", sum := "c83ecd79cc834a2f3e7f7940bc53917ce8544a277d4f39dac2009da897de0db2", func := "purveyor/purveyorlaw16.SellErrors", spec := "sellErrors", unfollowed := true, recurses := true, named := ["math/bits.divideError", "math/bits.overflowError"], apart := false }
def SellErrorsSaid : Prop := sellErrorsRow.holds Tryz.pinned (OpenSpec.ofChange sellErrorsSpec)

/-- ITS FALSE NEIGHBOUR: 'it returns false'. Refute it at one input. -/
def sellErrorsWrong : ChangeSpec := { name := "sellErrors", fn := fun _ => fun
  | [d1, d2] => { results := [.lit (.bool false)], args := [d1, d2] }
  | _ => none }
def SellErrorsWrongFalsely : Prop := sellErrorsRow.holds Tryz.pinned (OpenSpec.ofChange sellErrorsWrong)

/- THE SECOND FORM. 'bulk': how many values and letters a reading holds, each counted each time it is reached (what is shared counts as often as it is met; a slice's spare places count too). A statement '..UptoSaid' is the law's where the arguments, and the package variables that the reading takes, are together of bulk at most 1048576: NARROWER than '..Said'. Prove '..Said' where nothing that the law and all that it calls make is longer than what came in: it says more and counts as full. Else prove '..UptoSaid'. A law counts once. -/
mutual
def uptoBulk {H : Type} : DataW H → Nat
  | .lit (.string bytes) => bytes.length + 1
  | .lit _ => 1
  | .nil => 1
  | .ptr d => uptoBulk d + 1
  | .slice elems spare => uptoBulkAll elems + uptoBulkAll spare + 1
  | .agg parts => uptoBulkAll parts + 1
  | .iface _ d => uptoBulk d + 1
  | .map entries => uptoBulkEntries entries + 1
  | .held _ => 1
def uptoBulkAll {H : Type} : List (DataW H) → Nat
  | [] => 0
  | d :: r => uptoBulk d + uptoBulkAll r
def uptoBulkEntries {H : Type} : List (Lit × DataW H) → Nat
  | [] => 0
  | x :: r => uptoBulkEntry x + uptoBulkEntries r
def uptoBulkEntry {H : Type} : Lit × DataW H → Nat
  | (.string bytes, d) => bytes.length + uptoBulk d + 1
  | (_, d) => uptoBulk d + 1
 end
def uptoSmall : (H : Type) → List (DataW H) → Bool := fun _ ds => decide (uptoBulkAll ds ≤ 1048576)
def OpenSpec.upto (s : _root_.Go.ChangeSpec) : _root_.Go.OpenSpec := { _root_.Go.OpenSpec.ofChange s with cond := some uptoSmall }

/-- 'purveyorlaw15.ReceiveErrors', WHERE WHAT IT READS IS OF BULK AT MOST 1048576: true; the input reads as it did. -/
def receiveErrorsUptoRow : OpenClaim := { program := "ytpbcnilkippahaagreat", sum := "c83ecd79cc834a2f3e7f7940bc53917ce8544a277d4f39dac2009da897de0db2", func := "purveyor/purveyorlaw15.ReceiveErrors", spec := "receiveErrors", unfollowed := true, recurses := true, apart := false, narrowed := true }
def ReceiveErrorsUptoSaid : Prop := receiveErrorsUptoRow.holds Tryz.pinned (OpenSpec.upto receiveErrorsSpec)

/-- 'purveyorlaw15.ReceiveMany', WHERE WHAT IT READS IS OF BULK AT MOST 1048576: true; the input reads as it did. -/
def receiveManyUptoRow : OpenClaim := { program := "ytpbcnilkippahaagreat", sum := "c83ecd79cc834a2f3e7f7940bc53917ce8544a277d4f39dac2009da897de0db2", func := "purveyor/purveyorlaw15.ReceiveMany", spec := "receiveMany", unfollowed := true, recurses := true, apart := false, narrowed := true }
def ReceiveManyUptoSaid : Prop := receiveManyUptoRow.holds Tryz.pinned (OpenSpec.upto receiveManySpec)

/-- 'purveyorlaw16.SellErrors', WHERE WHAT IT READS IS OF BULK AT MOST 1048576: true; the input reads as it did. -/
def sellErrorsUptoRow : OpenClaim := { program := "ytpbcnilkippahaagreat", sum := "c83ecd79cc834a2f3e7f7940bc53917ce8544a277d4f39dac2009da897de0db2", func := "purveyor/purveyorlaw16.SellErrors", spec := "sellErrors", unfollowed := true, recurses := true, named := ["math/bits.divideError", "math/bits.overflowError"], apart := false, narrowed := true }
def SellErrorsUptoSaid : Prop := sellErrorsUptoRow.holds Tryz.pinned (OpenSpec.upto sellErrorsSpec)

end Rows
end Go.Proofs.YtpbcnilkippahaaGreat
