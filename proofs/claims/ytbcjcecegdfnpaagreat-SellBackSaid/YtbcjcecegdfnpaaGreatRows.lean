/-
  No cell of these rows narrows 'for every input' (looked for: loops, veiled, ifaces, maps, wideKeys, modest, calm, conditions, laid).
  DERIVED. THE GIVEN ROWS OF THIS SEAT. 12 by the template 'for every input the law returns true; each argument reads behind the call as it read before'; 0 by the template 'total and deterministic' (their statements: YtbcjcecegdfnpaaGreatTotals.lean).
  GIVEN WITH THE SEED: the statements are not yours to turn. If you find one false, say at which input.
  Laid BY PROGRAM, IN A SANDBOX (cutbox-rows.mjs): the forced cells as the released guide's own fill.sh prints them over the translation 3aeba5742c4748ad… (all of the seat's roots in one cut). By AI agents, Wed Nov 11 2026. No macro, syntax, notation, axiom, sorry.
-/
import Derived.Test.YtbcjcecegdfnpaaGreatChecked
import GoSem.Claim
import GoSem.ClaimJoined
import GoSem.ClaimMapViews
import Derived.JoinedTies
import Derived.KernelRfl
namespace Go.Proofs.YtbcjcecegdfnpaaGreat
/- THE CELL 'sum', in the pinned program and in every row, IS THE sha256 OF THE DUMP (.gsa) THAT YtbcjcecegdfnpaaGreatProg.lean LOADS. Nothing in Lean hashes anything: it is a label: what it is worth is what the hold of that sum in a sandbox is worth. -/
noncomputable def Tryz.pinned : Pinned := { name := "ytbcjcecegdfnpaagreat", sum := "3aeba5742c4748ad311fd9895ad5bac53f1f6e4c061aedf795062ccbb82f3c88", checked := Tryz.checked }
namespace Rows
def none {H : Type} : Left H := { results := [], args := [] }

/-- 'purveyorlaw15.ReceiveKinds': WHATEVER THE INPUT: true; the input reads as it did. -/
def receiveKindsSpec : ChangeSpec := { name := "receiveKinds", fn := fun _ => fun
  | [d1, d2, d3] => { results := [.lit (.bool true)], args := [d1, d2, d3] }
  | _ => none }
def receiveKindsRow : OpenClaim := { program := "ytbcjcecegdfnpaagreat", sum := "3aeba5742c4748ad311fd9895ad5bac53f1f6e4c061aedf795062ccbb82f3c88", func := "purveyor/purveyorlaw15.ReceiveKinds", spec := "receiveKinds", unfollowed := true, recurses := true, apart := false }
def ReceiveKindsSaid : Prop := receiveKindsRow.holds Tryz.pinned (OpenSpec.ofChange receiveKindsSpec)

/-- ITS FALSE NEIGHBOUR: 'it returns false'. Refute it at one input. -/
def receiveKindsWrong : ChangeSpec := { name := "receiveKinds", fn := fun _ => fun
  | [d1, d2, d3] => { results := [.lit (.bool false)], args := [d1, d2, d3] }
  | _ => none }
def ReceiveKindsWrongFalsely : Prop := receiveKindsRow.holds Tryz.pinned (OpenSpec.ofChange receiveKindsWrong)

/-- 'purveyorlaw15.ReceiveErrors': WHATEVER THE INPUT: true; the input reads as it did. -/
def receiveErrorsSpec : ChangeSpec := { name := "receiveErrors", fn := fun _ => fun
  | [d1, d2] => { results := [.lit (.bool true)], args := [d1, d2] }
  | _ => none }
def receiveErrorsRow : OpenClaim := { program := "ytbcjcecegdfnpaagreat", sum := "3aeba5742c4748ad311fd9895ad5bac53f1f6e4c061aedf795062ccbb82f3c88", func := "purveyor/purveyorlaw15.ReceiveErrors", spec := "receiveErrors", unfollowed := true, recurses := true, apart := false }
def ReceiveErrorsSaid : Prop := receiveErrorsRow.holds Tryz.pinned (OpenSpec.ofChange receiveErrorsSpec)

/-- ITS FALSE NEIGHBOUR: 'it returns false'. Refute it at one input. -/
def receiveErrorsWrong : ChangeSpec := { name := "receiveErrors", fn := fun _ => fun
  | [d1, d2] => { results := [.lit (.bool false)], args := [d1, d2] }
  | _ => none }
def ReceiveErrorsWrongFalsely : Prop := receiveErrorsRow.holds Tryz.pinned (OpenSpec.ofChange receiveErrorsWrong)

/-- 'purveyorlaw15.ReceiveMany': WHATEVER THE INPUT: true; the input reads as it did. -/
def receiveManySpec : ChangeSpec := { name := "receiveMany", fn := fun _ => fun
  | [d] => { results := [.lit (.bool true)], args := [d] }
  | _ => none }
def receiveManyRow : OpenClaim := { program := "ytbcjcecegdfnpaagreat", sum := "3aeba5742c4748ad311fd9895ad5bac53f1f6e4c061aedf795062ccbb82f3c88", func := "purveyor/purveyorlaw15.ReceiveMany", spec := "receiveMany", unfollowed := true, recurses := true, apart := false }
def ReceiveManySaid : Prop := receiveManyRow.holds Tryz.pinned (OpenSpec.ofChange receiveManySpec)

/-- ITS FALSE NEIGHBOUR: 'it returns false'. Refute it at one input. -/
def receiveManyWrong : ChangeSpec := { name := "receiveMany", fn := fun _ => fun
  | [d] => { results := [.lit (.bool false)], args := [d] }
  | _ => none }
def ReceiveManyWrongFalsely : Prop := receiveManyRow.holds Tryz.pinned (OpenSpec.ofChange receiveManyWrong)

/-- 'purveyorlaw18.MatchDue': WHATEVER THE INPUT: true; the input reads as it did. -/
def matchDueSpec : ChangeSpec := { name := "matchDue", fn := fun _ => fun
  | [d1, d2] => { results := [.lit (.bool true)], args := [d1, d2] }
  | _ => none }
def matchDueRow : OpenClaim := { program := "ytbcjcecegdfnpaagreat", sum := "3aeba5742c4748ad311fd9895ad5bac53f1f6e4c061aedf795062ccbb82f3c88", func := "purveyor/purveyorlaw18.MatchDue", spec := "matchDue", unfollowed := true, recurses := true, named := ["math/bits.divideError", "math/bits.overflowError"], apart := false }
def MatchDueSaid : Prop := matchDueRow.holds Tryz.pinned (OpenSpec.ofChange matchDueSpec)

/-- ITS FALSE NEIGHBOUR: 'it returns false'. Refute it at one input. -/
def matchDueWrong : ChangeSpec := { name := "matchDue", fn := fun _ => fun
  | [d1, d2] => { results := [.lit (.bool false)], args := [d1, d2] }
  | _ => none }
def MatchDueWrongFalsely : Prop := matchDueRow.holds Tryz.pinned (OpenSpec.ofChange matchDueWrong)

/-- 'purveyorlaw18.MatchParts': WHATEVER THE INPUT: true; the input reads as it did. -/
def matchPartsSpec : ChangeSpec := { name := "matchParts", fn := fun _ => fun
  | [d1, d2, d3] => { results := [.lit (.bool true)], args := [d1, d2, d3] }
  | _ => none }
def matchPartsRow : OpenClaim := { program := "ytbcjcecegdfnpaagreat", sum := "3aeba5742c4748ad311fd9895ad5bac53f1f6e4c061aedf795062ccbb82f3c88", func := "purveyor/purveyorlaw18.MatchParts", spec := "matchParts", unfollowed := true, recurses := true, named := ["math/bits.divideError", "math/bits.overflowError"], apart := false }
def MatchPartsSaid : Prop := matchPartsRow.holds Tryz.pinned (OpenSpec.ofChange matchPartsSpec)

/-- ITS FALSE NEIGHBOUR: 'it returns false'. Refute it at one input. -/
def matchPartsWrong : ChangeSpec := { name := "matchParts", fn := fun _ => fun
  | [d1, d2, d3] => { results := [.lit (.bool false)], args := [d1, d2, d3] }
  | _ => none }
def MatchPartsWrongFalsely : Prop := matchPartsRow.holds Tryz.pinned (OpenSpec.ofChange matchPartsWrong)

/-- 'purveyorlaw18.MatchBack': WHATEVER THE INPUT: true; the input reads as it did. -/
def matchBackSpec : ChangeSpec := { name := "matchBack", fn := fun _ => fun
  | [d1, d2, d3] => { results := [.lit (.bool true)], args := [d1, d2, d3] }
  | _ => none }
def matchBackRow : OpenClaim := { program := "ytbcjcecegdfnpaagreat", sum := "3aeba5742c4748ad311fd9895ad5bac53f1f6e4c061aedf795062ccbb82f3c88", func := "purveyor/purveyorlaw18.MatchBack", spec := "matchBack", unfollowed := true, recurses := true, named := ["math/bits.divideError", "math/bits.overflowError"], apart := false }
def MatchBackSaid : Prop := matchBackRow.holds Tryz.pinned (OpenSpec.ofChange matchBackSpec)

/-- ITS FALSE NEIGHBOUR: 'it returns false'. Refute it at one input. -/
def matchBackWrong : ChangeSpec := { name := "matchBack", fn := fun _ => fun
  | [d1, d2, d3] => { results := [.lit (.bool false)], args := [d1, d2, d3] }
  | _ => none }
def MatchBackWrongFalsely : Prop := matchBackRow.holds Tryz.pinned (OpenSpec.ofChange matchBackWrong)

/-- 'purveyorlaw18.MatchTwo': WHATEVER THE INPUT: true; the input reads as it did. -/
def matchTwoSpec : ChangeSpec := { name := "matchTwo", fn := fun _ => fun
  | [d1, d2, d3] => { results := [.lit (.bool true)], args := [d1, d2, d3] }
  | _ => none }
def matchTwoRow : OpenClaim := { program := "ytbcjcecegdfnpaagreat", sum := "3aeba5742c4748ad311fd9895ad5bac53f1f6e4c061aedf795062ccbb82f3c88", func := "purveyor/purveyorlaw18.MatchTwo", spec := "matchTwo", unfollowed := true, recurses := true, named := ["math/bits.divideError", "math/bits.overflowError"], apart := false }
def MatchTwoSaid : Prop := matchTwoRow.holds Tryz.pinned (OpenSpec.ofChange matchTwoSpec)

/-- ITS FALSE NEIGHBOUR: 'it returns false'. Refute it at one input. -/
def matchTwoWrong : ChangeSpec := { name := "matchTwo", fn := fun _ => fun
  | [d1, d2, d3] => { results := [.lit (.bool false)], args := [d1, d2, d3] }
  | _ => none }
def MatchTwoWrongFalsely : Prop := matchTwoRow.holds Tryz.pinned (OpenSpec.ofChange matchTwoWrong)

/-- 'purveyorlaw16.SellBack': WHATEVER THE INPUT: true; the input reads as it did. -/
def sellBackSpec : ChangeSpec := { name := "sellBack", fn := fun _ => fun
  | [d1, d2, d3, d4] => { results := [.lit (.bool true)], args := [d1, d2, d3, d4] }
  | _ => none }
def sellBackRow : OpenClaim := { program := "ytbcjcecegdfnpaagreat", sum := "3aeba5742c4748ad311fd9895ad5bac53f1f6e4c061aedf795062ccbb82f3c88", func := "purveyor/purveyorlaw16.SellBack", spec := "sellBack", unfollowed := true, recurses := true, named := ["math/bits.divideError", "math/bits.overflowError"], apart := false }
def SellBackSaid : Prop := sellBackRow.holds Tryz.pinned (OpenSpec.ofChange sellBackSpec)

/-- ITS FALSE NEIGHBOUR: 'it returns false'. Refute it at one input. -/
def sellBackWrong : ChangeSpec := { name := "sellBack", fn := fun _ => fun
  | [d1, d2, d3, d4] => { results := [.lit (.bool false)], args := [d1, d2, d3, d4] }
  | _ => none }
def SellBackWrongFalsely : Prop := sellBackRow.holds Tryz.pinned (OpenSpec.ofChange sellBackWrong)

/-- 'purveyorlaw16.SellWaits': WHATEVER THE INPUT: true; the input reads as it did. -/
def sellWaitsSpec : ChangeSpec := { name := "sellWaits", fn := fun _ => fun
  | [d1, d2] => { results := [.lit (.bool true)], args := [d1, d2] }
  | _ => none }
def sellWaitsRow : OpenClaim := { program := "ytbcjcecegdfnpaagreat", sum := "3aeba5742c4748ad311fd9895ad5bac53f1f6e4c061aedf795062ccbb82f3c88", func := "purveyor/purveyorlaw16.SellWaits", spec := "sellWaits", unfollowed := true, recurses := true, named := ["math/bits.divideError", "math/bits.overflowError"], apart := false }
def SellWaitsSaid : Prop := sellWaitsRow.holds Tryz.pinned (OpenSpec.ofChange sellWaitsSpec)

/-- ITS FALSE NEIGHBOUR: 'it returns false'. Refute it at one input. -/
def sellWaitsWrong : ChangeSpec := { name := "sellWaits", fn := fun _ => fun
  | [d1, d2] => { results := [.lit (.bool false)], args := [d1, d2] }
  | _ => none }
def SellWaitsWrongFalsely : Prop := sellWaitsRow.holds Tryz.pinned (OpenSpec.ofChange sellWaitsWrong)

/-- 'purveyorlaw16.SellErrors': WHATEVER THE INPUT: true; the input reads as it did. -/
def sellErrorsSpec : ChangeSpec := { name := "sellErrors", fn := fun _ => fun
  | [d1, d2] => { results := [.lit (.bool true)], args := [d1, d2] }
  | _ => none }
def sellErrorsRow : OpenClaim := { program := "ytbcjcecegdfnpaagreat", sum := "3aeba5742c4748ad311fd9895ad5bac53f1f6e4c061aedf795062ccbb82f3c88", func := "purveyor/purveyorlaw16.SellErrors", spec := "sellErrors", unfollowed := true, recurses := true, named := ["math/bits.divideError", "math/bits.overflowError"], apart := false }
def SellErrorsSaid : Prop := sellErrorsRow.holds Tryz.pinned (OpenSpec.ofChange sellErrorsSpec)

/-- ITS FALSE NEIGHBOUR: 'it returns false'. Refute it at one input. -/
def sellErrorsWrong : ChangeSpec := { name := "sellErrors", fn := fun _ => fun
  | [d1, d2] => { results := [.lit (.bool false)], args := [d1, d2] }
  | _ => none }
def SellErrorsWrongFalsely : Prop := sellErrorsRow.holds Tryz.pinned (OpenSpec.ofChange sellErrorsWrong)

/-- 'purveyorlaw16.SellProfits': WHATEVER THE INPUT: true; the input reads as it did. -/
def sellProfitsSpec : ChangeSpec := { name := "sellProfits", fn := fun _ => fun
  | [d1, d2, d3, d4, d5] => { results := [.lit (.bool true)], args := [d1, d2, d3, d4, d5] }
  | _ => none }
def sellProfitsRow : OpenClaim := { program := "ytbcjcecegdfnpaagreat", sum := "3aeba5742c4748ad311fd9895ad5bac53f1f6e4c061aedf795062ccbb82f3c88", func := "purveyor/purveyorlaw16.SellProfits", spec := "sellProfits", unfollowed := true, recurses := true, named := ["math/bits.divideError", "math/bits.overflowError"], apart := false }
def SellProfitsSaid : Prop := sellProfitsRow.holds Tryz.pinned (OpenSpec.ofChange sellProfitsSpec)

/-- ITS FALSE NEIGHBOUR: 'it returns false'. Refute it at one input. -/
def sellProfitsWrong : ChangeSpec := { name := "sellProfits", fn := fun _ => fun
  | [d1, d2, d3, d4, d5] => { results := [.lit (.bool false)], args := [d1, d2, d3, d4, d5] }
  | _ => none }
def SellProfitsWrongFalsely : Prop := sellProfitsRow.holds Tryz.pinned (OpenSpec.ofChange sellProfitsWrong)

/-- 'purveyorlaw20.ShipErrors': WHATEVER THE INPUT: true; the input reads as it did. -/
def shipErrorsSpec : ChangeSpec := { name := "shipErrors", fn := fun _ => fun
  | [d1, d2] => { results := [.lit (.bool true)], args := [d1, d2] }
  | _ => none }
def shipErrorsRow : OpenClaim := { program := "ytbcjcecegdfnpaagreat", sum := "3aeba5742c4748ad311fd9895ad5bac53f1f6e4c061aedf795062ccbb82f3c88", func := "purveyor/purveyorlaw20.ShipErrors", spec := "shipErrors", unfollowed := true, recurses := true, named := ["math/bits.divideError", "math/bits.overflowError"], apart := false }
def ShipErrorsSaid : Prop := shipErrorsRow.holds Tryz.pinned (OpenSpec.ofChange shipErrorsSpec)

/-- ITS FALSE NEIGHBOUR: 'it returns false'. Refute it at one input. -/
def shipErrorsWrong : ChangeSpec := { name := "shipErrors", fn := fun _ => fun
  | [d1, d2] => { results := [.lit (.bool false)], args := [d1, d2] }
  | _ => none }
def ShipErrorsWrongFalsely : Prop := shipErrorsRow.holds Tryz.pinned (OpenSpec.ofChange shipErrorsWrong)

/- THE SECOND FORM. 'bulk': how many values and letters a reading holds, each counted each time it is reached (what is shared counts as often as it is met; a slice's spare places count too). A statement '..UptoSaid' is the law's where the arguments, and the package variables that the reading takes, are together of bulk at most 1048576: NARROWER than '..Said'. Prove '..Said' where nothing that the law and all that it calls make is longer than what came in: it says more and counts as full. Else prove '..UptoSaid'. A law counts once. -/
mutual
def uptoBulk {H : Type} : DataW H → Nat
  | .lit (.string bytes) => bytes.length + 1
  | .lit _ => 1
  | .nil => 1
  | .ptr d => uptoBulk d + 1
  | .slice elems spare => uptoBulkAll elems + uptoBulkAll spare + 1
  | .agg parts => uptoBulkAll parts + 1
  | .iface _ d => uptoBulk d + 1
  | .map entries => uptoBulkEntries entries + 1
  | .held _ => 1
def uptoBulkAll {H : Type} : List (DataW H) → Nat
  | [] => 0
  | d :: r => uptoBulk d + uptoBulkAll r
def uptoBulkEntries {H : Type} : List (Lit × DataW H) → Nat
  | [] => 0
  | x :: r => uptoBulkEntry x + uptoBulkEntries r
def uptoBulkEntry {H : Type} : Lit × DataW H → Nat
  | (.string bytes, d) => bytes.length + uptoBulk d + 1
  | (_, d) => uptoBulk d + 1
 end
def uptoSmall : (H : Type) → List (DataW H) → Bool := fun _ ds => decide (uptoBulkAll ds ≤ 1048576)
def OpenSpec.upto (s : _root_.Go.ChangeSpec) : _root_.Go.OpenSpec := { _root_.Go.OpenSpec.ofChange s with cond := some uptoSmall }

/-- 'purveyorlaw15.ReceiveKinds', WHERE WHAT IT READS IS OF BULK AT MOST 1048576: true; the input reads as it did. -/
def receiveKindsUptoRow : OpenClaim := { program := "ytbcjcecegdfnpaagreat", sum := "3aeba5742c4748ad311fd9895ad5bac53f1f6e4c061aedf795062ccbb82f3c88", func := "purveyor/purveyorlaw15.ReceiveKinds", spec := "receiveKinds", unfollowed := true, recurses := true, apart := false, narrowed := true }
def ReceiveKindsUptoSaid : Prop := receiveKindsUptoRow.holds Tryz.pinned (OpenSpec.upto receiveKindsSpec)

/-- 'purveyorlaw15.ReceiveErrors', WHERE WHAT IT READS IS OF BULK AT MOST 1048576: true; the input reads as it did. -/
def receiveErrorsUptoRow : OpenClaim := { program := "ytbcjcecegdfnpaagreat", sum := "3aeba5742c4748ad311fd9895ad5bac53f1f6e4c061aedf795062ccbb82f3c88", func := "purveyor/purveyorlaw15.ReceiveErrors", spec := "receiveErrors", unfollowed := true, recurses := true, apart := false, narrowed := true }
def ReceiveErrorsUptoSaid : Prop := receiveErrorsUptoRow.holds Tryz.pinned (OpenSpec.upto receiveErrorsSpec)

/-- 'purveyorlaw15.ReceiveMany', WHERE WHAT IT READS IS OF BULK AT MOST 1048576: true; the input reads as it did. -/
def receiveManyUptoRow : OpenClaim := { program := "ytbcjcecegdfnpaagreat", sum := "3aeba5742c4748ad311fd9895ad5bac53f1f6e4c061aedf795062ccbb82f3c88", func := "purveyor/purveyorlaw15.ReceiveMany", spec := "receiveMany", unfollowed := true, recurses := true, apart := false, narrowed := true }
def ReceiveManyUptoSaid : Prop := receiveManyUptoRow.holds Tryz.pinned (OpenSpec.upto receiveManySpec)

/-- 'purveyorlaw18.MatchDue', WHERE WHAT IT READS IS OF BULK AT MOST 1048576: true; the input reads as it did. -/
def matchDueUptoRow : OpenClaim := { program := "ytbcjcecegdfnpaagreat", sum := "3aeba5742c4748ad311fd9895ad5bac53f1f6e4c061aedf795062ccbb82f3c88", func := "purveyor/purveyorlaw18.MatchDue", spec := "matchDue", unfollowed := true, recurses := true, named := ["math/bits.divideError", "math/bits.overflowError"], apart := false, narrowed := true }
def MatchDueUptoSaid : Prop := matchDueUptoRow.holds Tryz.pinned (OpenSpec.upto matchDueSpec)

/-- 'purveyorlaw18.MatchParts', WHERE WHAT IT READS IS OF BULK AT MOST 1048576: true; the input reads as it did. -/
def matchPartsUptoRow : OpenClaim := { program := "ytbcjcecegdfnpaagreat", sum := "3aeba5742c4748ad311fd9895ad5bac53f1f6e4c061aedf795062ccbb82f3c88", func := "purveyor/purveyorlaw18.MatchParts", spec := "matchParts", unfollowed := true, recurses := true, named := ["math/bits.divideError", "math/bits.overflowError"], apart := false, narrowed := true }
def MatchPartsUptoSaid : Prop := matchPartsUptoRow.holds Tryz.pinned (OpenSpec.upto matchPartsSpec)

/-- 'purveyorlaw18.MatchBack', WHERE WHAT IT READS IS OF BULK AT MOST 1048576: true; the input reads as it did. -/
def matchBackUptoRow : OpenClaim := { program := "ytbcjcecegdfnpaagreat", sum := "3aeba5742c4748ad311fd9895ad5bac53f1f6e4c061aedf795062ccbb82f3c88", func := "purveyor/purveyorlaw18.MatchBack", spec := "matchBack", unfollowed := true, recurses := true, named := ["math/bits.divideError", "math/bits.overflowError"], apart := false, narrowed := true }
def MatchBackUptoSaid : Prop := matchBackUptoRow.holds Tryz.pinned (OpenSpec.upto matchBackSpec)

/-- 'purveyorlaw18.MatchTwo', WHERE WHAT IT READS IS OF BULK AT MOST 1048576: true; the input reads as it did. -/
def matchTwoUptoRow : OpenClaim := { program := "ytbcjcecegdfnpaagreat", sum := "3aeba5742c4748ad311fd9895ad5bac53f1f6e4c061aedf795062ccbb82f3c88", func := "purveyor/purveyorlaw18.MatchTwo", spec := "matchTwo", unfollowed := true, recurses := true, named := ["math/bits.divideError", "math/bits.overflowError"], apart := false, narrowed := true }
def MatchTwoUptoSaid : Prop := matchTwoUptoRow.holds Tryz.pinned (OpenSpec.upto matchTwoSpec)

/-- 'purveyorlaw16.SellBack', WHERE WHAT IT READS IS OF BULK AT MOST 1048576: true; the input reads as it did. -/
def sellBackUptoRow : OpenClaim := { program := "ytbcjcecegdfnpaagreat", sum := "3aeba5742c4748ad311fd9895ad5bac53f1f6e4c061aedf795062ccbb82f3c88", func := "purveyor/purveyorlaw16.SellBack", spec := "sellBack", unfollowed := true, recurses := true, named := ["math/bits.divideError", "math/bits.overflowError"], apart := false, narrowed := true }
def SellBackUptoSaid : Prop := sellBackUptoRow.holds Tryz.pinned (OpenSpec.upto sellBackSpec)

/-- 'purveyorlaw16.SellWaits', WHERE WHAT IT READS IS OF BULK AT MOST 1048576: true; the input reads as it did. -/
def sellWaitsUptoRow : OpenClaim := { program := "ytbcjcecegdfnpaagreat", sum := "3aeba5742c4748ad311fd9895ad5bac53f1f6e4c061aedf795062ccbb82f3c88", func := "purveyor/purveyorlaw16.SellWaits", spec := "sellWaits", unfollowed := true, recurses := true, named := ["math/bits.divideError", "math/bits.overflowError"], apart := false, narrowed := true }
def SellWaitsUptoSaid : Prop := sellWaitsUptoRow.holds Tryz.pinned (OpenSpec.upto sellWaitsSpec)

/-- 'purveyorlaw16.SellErrors', WHERE WHAT IT READS IS OF BULK AT MOST 1048576: true; the input reads as it did. -/
def sellErrorsUptoRow : OpenClaim := { program := "ytbcjcecegdfnpaagreat", sum := "3aeba5742c4748ad311fd9895ad5bac53f1f6e4c061aedf795062ccbb82f3c88", func := "purveyor/purveyorlaw16.SellErrors", spec := "sellErrors", unfollowed := true, recurses := true, named := ["math/bits.divideError", "math/bits.overflowError"], apart := false, narrowed := true }
def SellErrorsUptoSaid : Prop := sellErrorsUptoRow.holds Tryz.pinned (OpenSpec.upto sellErrorsSpec)

/-- 'purveyorlaw16.SellProfits', WHERE WHAT IT READS IS OF BULK AT MOST 1048576: true; the input reads as it did. -/
def sellProfitsUptoRow : OpenClaim := { program := "ytbcjcecegdfnpaagreat", sum := "3aeba5742c4748ad311fd9895ad5bac53f1f6e4c061aedf795062ccbb82f3c88", func := "purveyor/purveyorlaw16.SellProfits", spec := "sellProfits", unfollowed := true, recurses := true, named := ["math/bits.divideError", "math/bits.overflowError"], apart := false, narrowed := true }
def SellProfitsUptoSaid : Prop := sellProfitsUptoRow.holds Tryz.pinned (OpenSpec.upto sellProfitsSpec)

/-- 'purveyorlaw20.ShipErrors', WHERE WHAT IT READS IS OF BULK AT MOST 1048576: true; the input reads as it did. -/
def shipErrorsUptoRow : OpenClaim := { program := "ytbcjcecegdfnpaagreat", sum := "3aeba5742c4748ad311fd9895ad5bac53f1f6e4c061aedf795062ccbb82f3c88", func := "purveyor/purveyorlaw20.ShipErrors", spec := "shipErrors", unfollowed := true, recurses := true, named := ["math/bits.divideError", "math/bits.overflowError"], apart := false, narrowed := true }
def ShipErrorsUptoSaid : Prop := shipErrorsUptoRow.holds Tryz.pinned (OpenSpec.upto shipErrorsSpec)

end Rows
end Go.Proofs.YtbcjcecegdfnpaaGreat
