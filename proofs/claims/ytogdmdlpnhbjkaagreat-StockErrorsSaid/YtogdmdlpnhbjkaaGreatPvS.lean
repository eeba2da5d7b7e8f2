/- Calls that make one object. -/
import Derived.Test.YtogdmdlpnhbjkaaGreatPvR
import Derived.Lib.ConvBytes
set_option linter.unusedSimpArgs false
set_option linter.unusedVariables false
namespace Go.Pv
end Go.Pv
