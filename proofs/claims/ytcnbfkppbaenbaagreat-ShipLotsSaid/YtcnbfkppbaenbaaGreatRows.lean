/-
  No cell of these rows narrows 'for every input' (looked for: loops, veiled, ifaces, maps, wideKeys, modest, calm, conditions, laid).
  DERIVED. THE GIVEN ROWS OF THIS SEAT. 8 by the template 'for every input the law returns true; each argument reads behind the call as it read before'; 0 by the template 'total and deterministic' (their statements: YtcnbfkppbaenbaaGreatTotals.lean).
  GIVEN WITH THE SEED: the statements are not yours to turn. If you find one false, say at which input.
  Laid BY PROGRAM, IN A SANDBOX (cutbox-rows.mjs): the forced cells as the released guide's own fill.sh prints them over the translation ad9f0ddaf4f4653a… (all of the seat's roots in one cut). By AI agents, Wed Nov 11 2026. No macro, syntax, notation, axiom, sorry.
-/
import Derived.Test.YtcnbfkppbaenbaaGreatChecked
import GoSem.Claim
import GoSem.ClaimJoined
import GoSem.ClaimMapViews
import Derived.JoinedTies
import Derived.KernelRfl
namespace Go.Proofs.YtcnbfkppbaenbaaGreat
/- THE CELL 'sum', in the pinned program and in every row, IS THE sha256 OF THE DUMP (.gsa) THAT YtcnbfkppbaenbaaGreatProg.lean LOADS. Nothing in Lean hashes anything: it is a label: what it is worth is what the hold of that sum in a sandbox is worth. -/
noncomputable def Tryz.pinned : Pinned := { name := "ytcnbfkppbaenbaagreat", sum := "ad9f0ddaf4f4653acda3c2fe75daf58b968ed536867bad029809bd1c7a71aae2", checked := Tryz.checked }
namespace Rows
def none {H : Type} : Left H := { results := [], args := [] }

/-- 'purveyorlaw18.MatchNumbers': WHATEVER THE INPUT: true; the input reads as it did. -/
def matchNumbersSpec : ChangeSpec := { name := "matchNumbers", fn := fun _ => fun
  | [d1, d2, d3, d4] => { results := [.lit (.bool true)], args := [d1, d2, d3, d4] }
  | _ => none }
def matchNumbersRow : OpenClaim := { program := "ytcnbfkppbaenbaagreat", sum := "ad9f0ddaf4f4653acda3c2fe75daf58b968ed536867bad029809bd1c7a71aae2", func := "purveyor/purveyorlaw18.MatchNumbers", spec := "matchNumbers", unfollowed := true, recurses := true, named := ["math/bits.divideError", "math/bits.overflowError"], apart := false }
def MatchNumbersSaid : Prop := matchNumbersRow.holds Tryz.pinned (OpenSpec.ofChange matchNumbersSpec)

/-- ITS FALSE NEIGHBOUR: 'it returns false'. Refute it at one input. -/
def matchNumbersWrong : ChangeSpec := { name := "matchNumbers", fn := fun _ => fun
  | [d1, d2, d3, d4] => { results := [.lit (.bool false)], args := [d1, d2, d3, d4] }
  | _ => none }
def MatchNumbersWrongFalsely : Prop := matchNumbersRow.holds Tryz.pinned (OpenSpec.ofChange matchNumbersWrong)

/-- 'purveyorlaw18.MatchLots': WHATEVER THE INPUT: true; the input reads as it did. -/
def matchLotsSpec : ChangeSpec := { name := "matchLots", fn := fun _ => fun
  | [d1, d2, d3] => { results := [.lit (.bool true)], args := [d1, d2, d3] }
  | _ => none }
def matchLotsRow : OpenClaim := { program := "ytcnbfkppbaenbaagreat", sum := "ad9f0ddaf4f4653acda3c2fe75daf58b968ed536867bad029809bd1c7a71aae2", func := "purveyor/purveyorlaw18.MatchLots", spec := "matchLots", unfollowed := true, recurses := true, named := ["math/bits.divideError", "math/bits.overflowError"], apart := false }
def MatchLotsSaid : Prop := matchLotsRow.holds Tryz.pinned (OpenSpec.ofChange matchLotsSpec)

/-- ITS FALSE NEIGHBOUR: 'it returns false'. Refute it at one input. -/
def matchLotsWrong : ChangeSpec := { name := "matchLots", fn := fun _ => fun
  | [d1, d2, d3] => { results := [.lit (.bool false)], args := [d1, d2, d3] }
  | _ => none }
def MatchLotsWrongFalsely : Prop := matchLotsRow.holds Tryz.pinned (OpenSpec.ofChange matchLotsWrong)

/-- 'purveyorlaw20.ShipNumbers': WHATEVER THE INPUT: true; the input reads as it did. -/
def shipNumbersSpec : ChangeSpec := { name := "shipNumbers", fn := fun _ => fun
  | [d1, d2, d3, d4] => { results := [.lit (.bool true)], args := [d1, d2, d3, d4] }
  | _ => none }
def shipNumbersRow : OpenClaim := { program := "ytcnbfkppbaenbaagreat", sum := "ad9f0ddaf4f4653acda3c2fe75daf58b968ed536867bad029809bd1c7a71aae2", func := "purveyor/purveyorlaw20.ShipNumbers", spec := "shipNumbers", unfollowed := true, recurses := true, named := ["math/bits.divideError", "math/bits.overflowError"], apart := false }
def ShipNumbersSaid : Prop := shipNumbersRow.holds Tryz.pinned (OpenSpec.ofChange shipNumbersSpec)

/-- ITS FALSE NEIGHBOUR: 'it returns false'. Refute it at one input. -/
def shipNumbersWrong : ChangeSpec := { name := "shipNumbers", fn := fun _ => fun
  | [d1, d2, d3, d4] => { results := [.lit (.bool false)], args := [d1, d2, d3, d4] }
  | _ => none }
def ShipNumbersWrongFalsely : Prop := shipNumbersRow.holds Tryz.pinned (OpenSpec.ofChange shipNumbersWrong)

/-- 'purveyorlaw20.ShipLots': WHATEVER THE INPUT: true; the input reads as it did. -/
def shipLotsSpec : ChangeSpec := { name := "shipLots", fn := fun _ => fun
  | [d1, d2, d3] => { results := [.lit (.bool true)], args := [d1, d2, d3] }
  | _ => none }
def shipLotsRow : OpenClaim := { program := "ytcnbfkppbaenbaagreat", sum := "ad9f0ddaf4f4653acda3c2fe75daf58b968ed536867bad029809bd1c7a71aae2", func := "purveyor/purveyorlaw20.ShipLots", spec := "shipLots", unfollowed := true, recurses := true, named := ["math/bits.divideError", "math/bits.overflowError"], apart := false }
def ShipLotsSaid : Prop := shipLotsRow.holds Tryz.pinned (OpenSpec.ofChange shipLotsSpec)

/-- ITS FALSE NEIGHBOUR: 'it returns false'. Refute it at one input. -/
def shipLotsWrong : ChangeSpec := { name := "shipLots", fn := fun _ => fun
  | [d1, d2, d3] => { results := [.lit (.bool false)], args := [d1, d2, d3] }
  | _ => none }
def ShipLotsWrongFalsely : Prop := shipLotsRow.holds Tryz.pinned (OpenSpec.ofChange shipLotsWrong)

/-- 'purveyorlaw16.SellNumbers': WHATEVER THE INPUT: true; the input reads as it did. -/
def sellNumbersSpec : ChangeSpec := { name := "sellNumbers", fn := fun _ => fun
  | [d1, d2, d3, d4] => { results := [.lit (.bool true)], args := [d1, d2, d3, d4] }
  | _ => none }
def sellNumbersRow : OpenClaim := { program := "ytcnbfkppbaenbaagreat", sum := "ad9f0ddaf4f4653acda3c2fe75daf58b968ed536867bad029809bd1c7a71aae2", func := "purveyor/purveyorlaw16.SellNumbers", spec := "sellNumbers", unfollowed := true, recurses := true, named := ["math/bits.divideError", "math/bits.overflowError"], apart := false }
def SellNumbersSaid : Prop := sellNumbersRow.holds Tryz.pinned (OpenSpec.ofChange sellNumbersSpec)

/-- ITS FALSE NEIGHBOUR: 'it returns false'. Refute it at one input. -/
def sellNumbersWrong : ChangeSpec := { name := "sellNumbers", fn := fun _ => fun
  | [d1, d2, d3, d4] => { results := [.lit (.bool false)], args := [d1, d2, d3, d4] }
  | _ => none }
def SellNumbersWrongFalsely : Prop := sellNumbersRow.holds Tryz.pinned (OpenSpec.ofChange sellNumbersWrong)

/-- 'purveyorlaw16.SellLots': WHATEVER THE INPUT: true; the input reads as it did. -/
def sellLotsSpec : ChangeSpec := { name := "sellLots", fn := fun _ => fun
  | [d1, d2, d3] => { results := [.lit (.bool true)], args := [d1, d2, d3] }
  | _ => none }
def sellLotsRow : OpenClaim := { program := "ytcnbfkppbaenbaagreat", sum := "ad9f0ddaf4f4653acda3c2fe75daf58b968ed536867bad029809bd1c7a71aae2", func := "purveyor/purveyorlaw16.SellLots", spec := "sellLots", unfollowed := true, recurses := true, named := ["math/bits.divideError", "math/bits.overflowError"], apart := false }
def SellLotsSaid : Prop := sellLotsRow.holds Tryz.pinned (OpenSpec.ofChange sellLotsSpec)

/-- ITS FALSE NEIGHBOUR: 'it returns false'. Refute it at one input. -/
def sellLotsWrong : ChangeSpec := { name := "sellLots", fn := fun _ => fun
  | [d1, d2, d3] => { results := [.lit (.bool false)], args := [d1, d2, d3] }
  | _ => none }
def SellLotsWrongFalsely : Prop := sellLotsRow.holds Tryz.pinned (OpenSpec.ofChange sellLotsWrong)

/-- 'purveyorlaw17.AdjustNumbers': WHATEVER THE INPUT: true; the input reads as it did. -/
def adjustNumbersSpec : ChangeSpec := { name := "adjustNumbers", fn := fun _ => fun
  | [d1, d2, d3, d4] => { results := [.lit (.bool true)], args := [d1, d2, d3, d4] }
  | _ => none }
def adjustNumbersRow : OpenClaim := { program := "ytcnbfkppbaenbaagreat", sum := "ad9f0ddaf4f4653acda3c2fe75daf58b968ed536867bad029809bd1c7a71aae2", func := "purveyor/purveyorlaw17.AdjustNumbers", spec := "adjustNumbers", unfollowed := true, recurses := true, named := ["math/bits.divideError", "math/bits.overflowError"], apart := false }
def AdjustNumbersSaid : Prop := adjustNumbersRow.holds Tryz.pinned (OpenSpec.ofChange adjustNumbersSpec)

/-- ITS FALSE NEIGHBOUR: 'it returns false'. Refute it at one input. -/
def adjustNumbersWrong : ChangeSpec := { name := "adjustNumbers", fn := fun _ => fun
  | [d1, d2, d3, d4] => { results := [.lit (.bool false)], args := [d1, d2, d3, d4] }
  | _ => none }
def AdjustNumbersWrongFalsely : Prop := adjustNumbersRow.holds Tryz.pinned (OpenSpec.ofChange adjustNumbersWrong)

/-- 'purveyorlaw17.AdjustLots': WHATEVER THE INPUT: true; the input reads as it did. -/
def adjustLotsSpec : ChangeSpec := { name := "adjustLots", fn := fun _ => fun
  | [d1, d2, d3] => { results := [.lit (.bool true)], args := [d1, d2, d3] }
  | _ => none }
def adjustLotsRow : OpenClaim := { program := "ytcnbfkppbaenbaagreat", sum := "ad9f0ddaf4f4653acda3c2fe75daf58b968ed536867bad029809bd1c7a71aae2", func := "purveyor/purveyorlaw17.AdjustLots", spec := "adjustLots", unfollowed := true, recurses := true, named := ["math/bits.divideError", "math/bits.overflowError"], apart := false }
def AdjustLotsSaid : Prop := adjustLotsRow.holds Tryz.pinned (OpenSpec.ofChange adjustLotsSpec)

/-- ITS FALSE NEIGHBOUR: 'it returns false'. Refute it at one input. -/
def adjustLotsWrong : ChangeSpec := { name := "adjustLots", fn := fun _ => fun
  | [d1, d2, d3] => { results := [.lit (.bool false)], args := [d1, d2, d3] }
  | _ => none }
def AdjustLotsWrongFalsely : Prop := adjustLotsRow.holds Tryz.pinned (OpenSpec.ofChange adjustLotsWrong)

/- THE SECOND FORM. 'bulk': how many values and letters a reading holds, each counted each time it is reached (what is shared counts as often as it is met; a slice's spare places count too). A statement '..UptoSaid' is the law's where the arguments, and the package variables that the reading takes, are together of bulk at most 1048576: NARROWER than '..Said'. Prove '..Said' where nothing that the law and all that it calls make is longer than what came in: it says more and counts as full. Else prove '..UptoSaid'. A law counts once. -/
mutual
def uptoBulk {H : Type} : DataW H → Nat
  | .lit (.string bytes) => bytes.length + 1
  | .lit _ => 1
  | .nil => 1
  | .ptr d => uptoBulk d + 1
  | .slice elems spare => uptoBulkAll elems + uptoBulkAll spare + 1
  | .agg parts => uptoBulkAll parts + 1
  | .iface _ d => uptoBulk d + 1
  | .map entries => uptoBulkEntries entries + 1
  | .held _ => 1
def uptoBulkAll {H : Type} : List (DataW H) → Nat
  | [] => 0
  | d :: r => uptoBulk d + uptoBulkAll r
def uptoBulkEntries {H : Type} : List (Lit × DataW H) → Nat
  | [] => 0
  | x :: r => uptoBulkEntry x + uptoBulkEntries r
def uptoBulkEntry {H : Type} : Lit × DataW H → Nat
  | (.string bytes, d) => bytes.length + uptoBulk d + 1
  | (_, d) => uptoBulk d + 1
 end
def uptoSmall : (H : Type) → List (DataW H) → Bool := fun _ ds => decide (uptoBulkAll ds ≤ 1048576)
def OpenSpec.upto (s : _root_.Go.ChangeSpec) : _root_.Go.OpenSpec := { _root_.Go.OpenSpec.ofChange s with cond := some uptoSmall }

/-- 'purveyorlaw18.MatchNumbers', WHERE WHAT IT READS IS OF BULK AT MOST 1048576: true; the input reads as it did. -/
def matchNumbersUptoRow : OpenClaim := { program := "ytcnbfkppbaenbaagreat", sum := "ad9f0ddaf4f4653acda3c2fe75daf58b968ed536867bad029809bd1c7a71aae2", func := "purveyor/purveyorlaw18.MatchNumbers", spec := "matchNumbers", unfollowed := true, recurses := true, named := ["math/bits.divideError", "math/bits.overflowError"], apart := false, narrowed := true }
def MatchNumbersUptoSaid : Prop := matchNumbersUptoRow.holds Tryz.pinned (OpenSpec.upto matchNumbersSpec)

/-- 'purveyorlaw18.MatchLots', WHERE WHAT IT READS IS OF BULK AT MOST 1048576: true; the input reads as it did. -/
def matchLotsUptoRow : OpenClaim := { program := "ytcnbfkppbaenbaagreat", sum := "ad9f0ddaf4f4653acda3c2fe75daf58b968ed536867bad029809bd1c7a71aae2", func := "purveyor/purveyorlaw18.MatchLots", spec := "matchLots", unfollowed := true, recurses := true, named := ["math/bits.divideError", "math/bits.overflowError"], apart := false, narrowed := true }
def MatchLotsUptoSaid : Prop := matchLotsUptoRow.holds Tryz.pinned (OpenSpec.upto matchLotsSpec)

/-- 'purveyorlaw20.ShipNumbers', WHERE WHAT IT READS IS OF BULK AT MOST 1048576: true; the input reads as it did. -/
def shipNumbersUptoRow : OpenClaim := { program := "ytcnbfkppbaenbaagreat", sum := "ad9f0ddaf4f4653acda3c2fe75daf58b968ed536867bad029809bd1c7a71aae2", func := "purveyor/purveyorlaw20.ShipNumbers", spec := "shipNumbers", unfollowed := true, recurses := true, named := ["math/bits.divideError", "math/bits.overflowError"], apart := false, narrowed := true }
def ShipNumbersUptoSaid : Prop := shipNumbersUptoRow.holds Tryz.pinned (OpenSpec.upto shipNumbersSpec)

/-- 'purveyorlaw20.ShipLots', WHERE WHAT IT READS IS OF BULK AT MOST 1048576: true; the input reads as it did. -/
def shipLotsUptoRow : OpenClaim := { program := "ytcnbfkppbaenbaagreat", sum := "ad9f0ddaf4f4653acda3c2fe75daf58b968ed536867bad029809bd1c7a71aae2", func := "purveyor/purveyorlaw20.ShipLots", spec := "shipLots", unfollowed := true, recurses := true, named := ["math/bits.divideError", "math/bits.overflowError"], apart := false, narrowed := true }
def ShipLotsUptoSaid : Prop := shipLotsUptoRow.holds Tryz.pinned (OpenSpec.upto shipLotsSpec)

/-- 'purveyorlaw16.SellNumbers', WHERE WHAT IT READS IS OF BULK AT MOST 1048576: true; the input reads as it did. -/
def sellNumbersUptoRow : OpenClaim := { program := "ytcnbfkppbaenbaagreat", sum := "ad9f0ddaf4f4653acda3c2fe75daf58b968ed536867bad029809bd1c7a71aae2", func := "purveyor/purveyorlaw16.SellNumbers", spec := "sellNumbers", unfollowed := true, recurses := true, named := ["math/bits.divideError", "math/bits.overflowError"], apart := false, narrowed := true }
def SellNumbersUptoSaid : Prop := sellNumbersUptoRow.holds Tryz.pinned (OpenSpec.upto sellNumbersSpec)

/-- 'purveyorlaw16.SellLots', WHERE WHAT IT READS IS OF BULK AT MOST 1048576: true; the input reads as it did. -/
def sellLotsUptoRow : OpenClaim := { program := "ytcnbfkppbaenbaagreat", sum := "ad9f0ddaf4f4653acda3c2fe75daf58b968ed536867bad029809bd1c7a71aae2", func := "purveyor/purveyorlaw16.SellLots", spec := "sellLots", unfollowed := true, recurses := true, named := ["math/bits.divideError", "math/bits.overflowError"], apart := false, narrowed := true }
def SellLotsUptoSaid : Prop := sellLotsUptoRow.holds Tryz.pinned (OpenSpec.upto sellLotsSpec)

/-- 'purveyorlaw17.AdjustNumbers', WHERE WHAT IT READS IS OF BULK AT MOST 1048576: true; the input reads as it did. -/
def adjustNumbersUptoRow : OpenClaim := { program := "ytcnbfkppbaenbaagreat", sum := "ad9f0ddaf4f4653acda3c2fe75daf58b968ed536867bad029809bd1c7a71aae2", func := "purveyor/purveyorlaw17.AdjustNumbers", spec := "adjustNumbers", unfollowed := true, recurses := true, named := ["math/bits.divideError", "math/bits.overflowError"], apart := false, narrowed := true }
def AdjustNumbersUptoSaid : Prop := adjustNumbersUptoRow.holds Tryz.pinned (OpenSpec.upto adjustNumbersSpec)

/-- 'purveyorlaw17.AdjustLots', WHERE WHAT IT READS IS OF BULK AT MOST 1048576: true; the input reads as it did. -/
def adjustLotsUptoRow : OpenClaim := { program := "ytcnbfkppbaenbaagreat", sum := "ad9f0ddaf4f4653acda3c2fe75daf58b968ed536867bad029809bd1c7a71aae2", func := "purveyor/purveyorlaw17.AdjustLots", spec := "adjustLots", unfollowed := true, recurses := true, named := ["math/bits.divideError", "math/bits.overflowError"], apart := false, narrowed := true }
def AdjustLotsUptoSaid : Prop := adjustLotsUptoRow.holds Tryz.pinned (OpenSpec.upto adjustLotsSpec)

end Rows
end Go.Proofs.YtcnbfkppbaenbaaGreat
