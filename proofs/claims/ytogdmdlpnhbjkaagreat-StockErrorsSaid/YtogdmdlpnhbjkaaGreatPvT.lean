/- Boxes that are never written; objects that are written no more. -/
import Derived.Test.YtogdmdlpnhbjkaaGreatPvS
set_option linter.unusedSimpArgs false
set_option linter.unusedVariables false
namespace Go.Pv
end Go.Pv
