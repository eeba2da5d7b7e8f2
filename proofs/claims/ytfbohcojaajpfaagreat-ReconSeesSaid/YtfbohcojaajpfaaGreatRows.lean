/-
  No cell of these rows narrows 'for every input' (looked for: loops, veiled, ifaces, maps, wideKeys, modest, calm, conditions, laid).
  DERIVED. THE GIVEN ROWS OF THIS SEAT. 4 by the template 'for every input the law returns true; each argument reads behind the call as it read before'; 0 by the template 'total and deterministic' (their statements: YtfbohcojaajpfaaGreatTotals.lean).
  GIVEN WITH THE SEED: the statements are not yours to turn. If you find one false, say at which input.
  Laid BY PROGRAM, IN A SANDBOX (cutbox-rows.mjs): the forced cells as the released guide's own fill.sh prints them over the translation 0404d2c35ace091e… (all of the seat's roots in one cut). By AI agents, Wed Nov 11 2026. No macro, syntax, notation, axiom, sorry.
-/
import Derived.Test.YtfbohcojaajpfaaGreatChecked
import GoSem.Claim
import GoSem.ClaimJoined
import GoSem.ClaimMapViews
import Derived.JoinedTies
import Derived.KernelRfl
namespace Go.Proofs.YtfbohcojaajpfaaGreat
/- THE CELL 'sum', in the pinned program and in every row, IS THE sha256 OF THE DUMP (.gsa) THAT YtfbohcojaajpfaaGreatProg.lean LOADS. Nothing in Lean hashes anything: it is a label: what it is worth is what the hold of that sum in a sandbox is worth. -/
noncomputable def Tryz.pinned : Pinned := { name := "ytfbohcojaajpfaagreat", sum := "0404d2c35ace091e22cd721392112b0c86b262865864fb3c1fd44f3a038d4d00", checked := Tryz.checked }
namespace Rows
def none {H : Type} : Left H := { results := [], args := [] }

/-- 'purveyorlaw24.ReconSees': WHATEVER THE INPUT: true; the input reads as it did. -/
def reconSeesSpec : ChangeSpec := { name := "reconSees", fn := fun _ => fun
  | [d1, d2, d3, d4] => { results := [.lit (.bool true)], args := [d1, d2, d3, d4] }
  | _ => none }
def reconSeesRow : OpenClaim := { program := "ytfbohcojaajpfaagreat", sum := "0404d2c35ace091e22cd721392112b0c86b262865864fb3c1fd44f3a038d4d00", func := "purveyor/purveyorlaw24.ReconSees", spec := "reconSees", unfollowed := true, recurses := true, apart := false }
def ReconSeesSaid : Prop := reconSeesRow.holds Tryz.pinned (OpenSpec.ofChange reconSeesSpec)

/-- ITS FALSE NEIGHBOUR: 'it returns false'. Refute it at one input. -/
def reconSeesWrong : ChangeSpec := { name := "reconSees", fn := fun _ => fun
  | [d1, d2, d3, d4] => { results := [.lit (.bool false)], args := [d1, d2, d3, d4] }
  | _ => none }
def ReconSeesWrongFalsely : Prop := reconSeesRow.holds Tryz.pinned (OpenSpec.ofChange reconSeesWrong)

/-- 'purveyorlaw24.ReconStrangers': WHATEVER THE INPUT: true; the input reads as it did. -/
def reconStrangersSpec : ChangeSpec := { name := "reconStrangers", fn := fun _ => fun
  | [d1, d2, d3] => { results := [.lit (.bool true)], args := [d1, d2, d3] }
  | _ => none }
def reconStrangersRow : OpenClaim := { program := "ytfbohcojaajpfaagreat", sum := "0404d2c35ace091e22cd721392112b0c86b262865864fb3c1fd44f3a038d4d00", func := "purveyor/purveyorlaw24.ReconStrangers", spec := "reconStrangers", unfollowed := true, recurses := true, apart := false }
def ReconStrangersSaid : Prop := reconStrangersRow.holds Tryz.pinned (OpenSpec.ofChange reconStrangersSpec)

/-- ITS FALSE NEIGHBOUR: 'it returns false'. Refute it at one input. -/
def reconStrangersWrong : ChangeSpec := { name := "reconStrangers", fn := fun _ => fun
  | [d1, d2, d3] => { results := [.lit (.bool false)], args := [d1, d2, d3] }
  | _ => none }
def ReconStrangersWrongFalsely : Prop := reconStrangersRow.holds Tryz.pinned (OpenSpec.ofChange reconStrangersWrong)

/-- 'purveyorlaw23.CloseAgain': WHATEVER THE INPUT: true; the input reads as it did. -/
def closeAgainSpec : ChangeSpec := { name := "closeAgain", fn := fun _ => fun
  | [d1, d2, d3, d4] => { results := [.lit (.bool true)], args := [d1, d2, d3, d4] }
  | _ => none }
def closeAgainRow : OpenClaim := { program := "ytfbohcojaajpfaagreat", sum := "0404d2c35ace091e22cd721392112b0c86b262865864fb3c1fd44f3a038d4d00", func := "purveyor/purveyorlaw23.CloseAgain", spec := "closeAgain", unfollowed := true, recurses := true, named := ["math/bits.divideError", "math/bits.overflowError"], apart := false }
def CloseAgainSaid : Prop := closeAgainRow.holds Tryz.pinned (OpenSpec.ofChange closeAgainSpec)

/-- ITS FALSE NEIGHBOUR: 'it returns false'. Refute it at one input. -/
def closeAgainWrong : ChangeSpec := { name := "closeAgain", fn := fun _ => fun
  | [d1, d2, d3, d4] => { results := [.lit (.bool false)], args := [d1, d2, d3, d4] }
  | _ => none }
def CloseAgainWrongFalsely : Prop := closeAgainRow.holds Tryz.pinned (OpenSpec.ofChange closeAgainWrong)

/-- 'purveyorlaw14.StockOne': WHATEVER THE INPUT: true; the input reads as it did. -/
def stockOneSpec : ChangeSpec := { name := "stockOne", fn := fun _ => fun
  | [d1, d2, d3, d4] => { results := [.lit (.bool true)], args := [d1, d2, d3, d4] }
  | _ => none }
def stockOneRow : OpenClaim := { program := "ytfbohcojaajpfaagreat", sum := "0404d2c35ace091e22cd721392112b0c86b262865864fb3c1fd44f3a038d4d00", func := "purveyor/purveyorlaw14.StockOne", spec := "stockOne", unfollowed := true, recurses := true, apart := false }
def StockOneSaid : Prop := stockOneRow.holds Tryz.pinned (OpenSpec.ofChange stockOneSpec)

/-- ITS FALSE NEIGHBOUR: 'it returns false'. Refute it at one input. -/
def stockOneWrong : ChangeSpec := { name := "stockOne", fn := fun _ => fun
  | [d1, d2, d3, d4] => { results := [.lit (.bool false)], args := [d1, d2, d3, d4] }
  | _ => none }
def StockOneWrongFalsely : Prop := stockOneRow.holds Tryz.pinned (OpenSpec.ofChange stockOneWrong)

/- THE SECOND FORM. 'bulk': how many values and letters a reading holds, each counted each time it is reached (what is shared counts as often as it is met; a slice's spare places count too). A statement '..UptoSaid' is the law's where the arguments, and the package variables that the reading takes, are together of bulk at most 1048576: NARROWER than '..Said'. Prove '..Said' where nothing that the law and all that it calls make is longer than what came in: it says more and counts as full. Else prove '..UptoSaid'. A law counts once. -/
mutual
def uptoBulk {H : Type} : DataW H → Nat
  | .lit (.string bytes) => bytes.length + 1
  | .lit _ => 1
  | .nil => 1
  | .ptr d => uptoBulk d + 1
  | .slice elems spare => uptoBulkAll elems + uptoBulkAll spare + 1
  | .agg parts => uptoBulkAll parts + 1
  | .iface _ d => uptoBulk d + 1
  | .map entries => uptoBulkEntries entries + 1
  | .held _ => 1
def uptoBulkAll {H : Type} : List (DataW H) → Nat
  | [] => 0
  | d :: r => uptoBulk d + uptoBulkAll r
def uptoBulkEntries {H : Type} : List (Lit × DataW H) → Nat
  | [] => 0
  | x :: r => uptoBulkEntry x + uptoBulkEntries r
def uptoBulkEntry {H : Type} : Lit × DataW H → Nat
  | (.string bytes, d) => bytes.length + uptoBulk d + 1
  | (_, d) => uptoBulk d + 1
 end
def uptoSmall : (H : Type) → List (DataW H) → Bool := fun _ ds => decide (uptoBulkAll ds ≤ 1048576)
def OpenSpec.upto (s : _root_.Go.ChangeSpec) : _root_.Go.OpenSpec := { _root_.Go.OpenSpec.ofChange s with cond := some uptoSmall }

/-- 'purveyorlaw24.ReconSees', WHERE WHAT IT READS IS OF BULK AT MOST 1048576: true; the input reads as it did. -/
def reconSeesUptoRow : OpenClaim := { program := "ytfbohcojaajpfaagreat", sum := "0404d2c35ace091e22cd721392112b0c86b262865864fb3c1fd44f3a038d4d00", func := "purveyor/purveyorlaw24.ReconSees", spec := "reconSees", unfollowed := true, recurses := true, apart := false, narrowed := true }
def ReconSeesUptoSaid : Prop := reconSeesUptoRow.holds Tryz.pinned (OpenSpec.upto reconSeesSpec)

/-- 'purveyorlaw24.ReconStrangers', WHERE WHAT IT READS IS OF BULK AT MOST 1048576: true; the input reads as it did. -/
def reconStrangersUptoRow : OpenClaim := { program := "ytfbohcojaajpfaagreat", sum := "0404d2c35ace091e22cd721392112b0c86b262865864fb3c1fd44f3a038d4d00", func := "purveyor/purveyorlaw24.ReconStrangers", spec := "reconStrangers", unfollowed := true, recurses := true, apart := false, narrowed := true }
def ReconStrangersUptoSaid : Prop := reconStrangersUptoRow.holds Tryz.pinned (OpenSpec.upto reconStrangersSpec)

/-- 'purveyorlaw23.CloseAgain', WHERE WHAT IT READS IS OF BULK AT MOST 1048576: true; the input reads as it did. -/
def closeAgainUptoRow : OpenClaim := { program := "ytfbohcojaajpfaagreat", sum := "0404d2c35ace091e22cd721392112b0c86b262865864fb3c1fd44f3a038d4d00", func := "purveyor/purveyorlaw23.CloseAgain", spec := "closeAgain", unfollowed := true, recurses := true, named := ["math/bits.divideError", "math/bits.overflowError"], apart := false, narrowed := true }
def CloseAgainUptoSaid : Prop := closeAgainUptoRow.holds Tryz.pinned (OpenSpec.upto closeAgainSpec)

/-- 'purveyorlaw14.StockOne', WHERE WHAT IT READS IS OF BULK AT MOST 1048576: true; the input reads as it did. -/
def stockOneUptoRow : OpenClaim := { program := "ytfbohcojaajpfaagreat", sum := "0404d2c35ace091e22cd721392112b0c86b262865864fb3c1fd44f3a038d4d00", func := "purveyor/purveyorlaw14.StockOne", spec := "stockOne", unfollowed := true, recurses := true, apart := false, narrowed := true }
def StockOneUptoSaid : Prop := stockOneUptoRow.holds Tryz.pinned (OpenSpec.upto stockOneSpec)

end Rows
end Go.Proofs.YtfbohcojaajpfaaGreat
