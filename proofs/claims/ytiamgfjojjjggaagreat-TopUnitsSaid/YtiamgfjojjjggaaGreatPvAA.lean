/- The last step for a contract over plain values. -/
import Derived.Test.YtiamgfjojjjggaaGreatPvT
set_option linter.unusedSimpArgs false
set_option linter.unusedVariables false
namespace Go.Pv
open Go.ChangeShapes Go.WideShapes Go.ChangeAt Go.RowKit
theorem walk_pp {P : Program} {f : FuncId} {args : List AV} {vs : Array Value} {w : World} (h : PP P f args (fun y => y = boo true)) (ha : AllR (s0 w) args vs) :
    Calls P f vs w fun e w' => e = .returned (.bool true) ∧ Below w.heap.size w w' := by
  refine (h (s0 w) vs (fun _ h => h) ⟨0, fun _ _ h => h⟩ ha).mono ?_
  rintro e w' ⟨y, s', v, rfl, _, rfl, rfl, h4, _, h6⟩
  have hv := h4.sc_inv
  subst hv
  exact ⟨rfl, ⟨h6.os, h6.tape, h6.output, h6.size, fun k hk => h6.keep k hk fun ⟨_, _, _, h, _⟩ => by cases h⟩⟩
end Go.Pv
