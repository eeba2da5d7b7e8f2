/- The last step for a contract over plain values. -/
import Derived.Test.YtkgnickfdedbmabGreatPvU
set_option linter.unusedVariables false
set_option linter.unusedSimpArgs false
namespace Go.Pv
open Go.ChangeShapes Go.WideShapes Go.ChangeAt Go.RowKit
theorem YJ {P:Program} {f:FuncId} {args:List AV} {vs:Array Value} {w:World} (h:PP P f args (λy=>y=aF true)) (ha:jI (s0 w) args vs) :
    Calls P f vs w λe w'=>e=.returned (.bool true)/\Below w.heap.size w w':=by
  refine (h (s0 w) vs (λ_ h=>h) ⟨0,λ_ _ h=>h⟩ ha).mono ?_
  rintro e w' ⟨y,s',v,rfl,_,rfl,rfl,h4,_,h6⟩
  have hv:=h4.dP
  subst hv
  exact ⟨rfl,⟨h6.os,h6.tape,h6.output,h6.size,λk hk=>h6.keep k hk λ⟨_,_,_,h,_⟩=>by cases h⟩⟩
end Go.Pv
