/- What slices.Clone and slices.Grow want; contracts over other words for what comes in. -/
import Derived.Test.YtpbcnilkippahaaPvY
import Derived.Lib.AppendZeros
set_option linter.unusedSimpArgs false
set_option linter.unusedVariables false
namespace Go.Pv
section
variable {P : Program} {n : NT} {S : AS} {o : Oper} {T : TypeId} {x y : Operand} {α : Type}
end
end Go.Pv
namespace Go.Pv
end Go.Pv
