/- Numbers as bytes, read again. -/
import Derived.Test.YtogdmdlpnhbjkaaGreatPvQ
set_option linter.unusedSimpArgs false
set_option linter.unusedVariables false
namespace Go.Pv
end Go.Pv
