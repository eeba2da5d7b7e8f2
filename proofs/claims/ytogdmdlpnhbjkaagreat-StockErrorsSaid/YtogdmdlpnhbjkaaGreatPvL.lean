/- The abstract layer, part 12: the builder's own steps; strings appended; makes. -/
import Derived.Test.YtogdmdlpnhbjkaaGreatPvK
set_option linter.unusedSimpArgs false
set_option linter.unusedVariables false
namespace Go.Pv
section
variable {P : Program} {n : NT} {S : AS} {o : Oper} {T : TypeId} {x y : Operand}
end
end Go.Pv
