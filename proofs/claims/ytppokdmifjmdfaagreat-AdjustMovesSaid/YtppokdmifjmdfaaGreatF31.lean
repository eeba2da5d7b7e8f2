/- AdjustMoves: the states on its way. -/
import Derived.Test.YtppokdmifjmdfaaGreatN31
set_option linter.unusedVariables false
set_option linter.unusedSimpArgs false
namespace Go.Pv
def F1 (P : List GPool) (v : Int) (R : List GRoll) (n i : Int) : GState :=
  ⟨⟨2, 3, [1, 2, 3, 0], [[1, 2, 3, 4], [1, 2, 3, 4]], [[10, 10, 10, 10], [10, 10, 10, 10]]⟩,
   [⟨1, false, P, [v, 0 - v, 0, 0, 0, 0, 0, 0, 0, 0, 0, 0, 0, 0, 0, 0, 0], R, [-1, -1, -1, -1], [0, 0, 0, 0], []⟩,
    ⟨1, false, [⟨[], ⟨0, 0, 0⟩⟩, ⟨[], ⟨0, 0, 0⟩⟩, ⟨[], ⟨0, 0, 0⟩⟩, ⟨[], ⟨0, 0, 0⟩⟩, ⟨[], ⟨0, 0, 0⟩⟩, ⟨[], ⟨0, 0, 0⟩⟩, ⟨[], ⟨0, 0, 0⟩⟩, ⟨[], ⟨0, 0, 0⟩⟩], [0, 0, 0, 0, 0, 0, 0, 0, 0, 0, 0, 0, 0, 0, 0, 0, 0], [⟨0, 0, 0, 0, 0, 0, 0, 0, 0, 0, 0⟩, ⟨0, 0, 0, 0, 0, 0, 0, 0, 0, 0, 0⟩, ⟨0, 0, 0, 0, 0, 0, 0, 0, 0, 0, 0⟩, ⟨0, 0, 0, 0, 0, 0, 0, 0, 0, 0, 0⟩], [-1, -1, -1, -1], [0, 0, 0, 0], []⟩], [⟨0, i, 0, n, v, n, v, 0⟩], [], [], 0⟩
def F3 (v : Int) : GRoll := ⟨0, v, 0, 0, 0, 0, 0, 0, 0, 0, 0⟩
def F4 (l : List GLayer) : GPool := ⟨l, ⟨0, 0, 0⟩⟩
end Go.Pv
