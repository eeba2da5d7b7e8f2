/- Runs with symbols. -/
import Derived.Test.YtbcjcecegdfnpaaGreatF5
set_option linter.unusedSimpArgs false
set_option linter.unusedVariables false
namespace Go.Pv
open Go.Proofs
set_option maxRecDepth 100000
set_option maxHeartbeats 4000000
theorem rs2_r (q : Int) (h1 : 0 ≤ q) (h2 : q ≤ 100000) : d_ref01_Sum 80 [q, 0] = some ((q, 0)) :=
  T.by_go [.a (q ≥ -288230376151711744),
    .a (q ≤ 288230376151711744),
    .w (0 + q) (q),
    .w (q + 0) (q)]
    4 (T.prs [0,1,2,0,1,4002,0,2001,3,0,1,3003]) (t_ref01_Sum_ok _ _)
    T.okS (by kernel_rfl)
end Go.Pv
