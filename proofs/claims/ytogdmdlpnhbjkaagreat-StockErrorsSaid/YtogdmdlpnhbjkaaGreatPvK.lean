/- The abstract layer, part 11: pointers, bytes and strings, makes. -/
import Derived.Test.YtogdmdlpnhbjkaaGreatPvJ
import Derived.Lib.Builder
import Derived.Lib.UnsafeStr
import Derived.Lib.AppendStr
set_option linter.unusedSimpArgs false
set_option linter.unusedVariables false
namespace Go.Pv
section
variable {P : Program} {n : NT} {S : AS} {o : Oper} {T : TypeId} {x y : Operand}
end
end Go.Pv
