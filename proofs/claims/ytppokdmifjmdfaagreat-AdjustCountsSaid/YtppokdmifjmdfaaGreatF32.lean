/- AdjustCounts: the states on its way. -/
import Derived.Test.YtppokdmifjmdfaaGreatN32
set_option linter.unusedVariables false
set_option linter.unusedSimpArgs false
namespace Go.Pv
def F1 (P : List GPool) (b0 b8 : Int) (R : List GRoll) (n i : Int) : GState :=
  ⟨⟨2, 3, [1, 2, 3, 0], [[1, 2, 3, 4], [1, 2, 3, 4]], [[10, 10, 10, 10], [10, 10, 10, 10]]⟩,
   [⟨1, false, P, [b0, 0 - 10 * n, 0, 0, 0, 0, 0, 0, b8, 0, 0, 0, 0, 0, 0, 0, 0], R, [-1, -1, -1, -1], [0, 0, 0, 0], []⟩,
    ⟨1, false, [⟨[], ⟨0, 0, 0⟩⟩, ⟨[], ⟨0, 0, 0⟩⟩, ⟨[], ⟨0, 0, 0⟩⟩, ⟨[], ⟨0, 0, 0⟩⟩, ⟨[], ⟨0, 0, 0⟩⟩, ⟨[], ⟨0, 0, 0⟩⟩, ⟨[], ⟨0, 0, 0⟩⟩, ⟨[], ⟨0, 0, 0⟩⟩], [0, 0, 0, 0, 0, 0, 0, 0, 0, 0, 0, 0, 0, 0, 0, 0, 0], [⟨0, 0, 0, 0, 0, 0, 0, 0, 0, 0, 0⟩, ⟨0, 0, 0, 0, 0, 0, 0, 0, 0, 0, 0⟩, ⟨0, 0, 0, 0, 0, 0, 0, 0, 0, 0, 0⟩, ⟨0, 0, 0, 0, 0, 0, 0, 0, 0, 0, 0⟩], [-1, -1, -1, -1], [0, 0, 0, 0], []⟩], [⟨0, i, 0, n, 10 * n, n, 10 * n, 0⟩], [], [], 0⟩
def F3 (v l : Int) : GRoll := ⟨0, v, 0, 0, 0, 0, 0, 0, 0, l, 0⟩
def F4 (l : List GLayer) (k : Int) : GPool := ⟨l, ⟨0, 0, k⟩⟩
end Go.Pv
