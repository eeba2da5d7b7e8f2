/- ShipChains: the states on its way. -/
import Derived.Test.YtppokdmifjmdfaaGreatM13
set_option linter.unusedVariables false
set_option linter.unusedSimpArgs false
namespace Go.Pv
def F1 (X : List GEnt) (T : List GTransit) (rc : GReceipt) : GState :=
  ⟨⟨2, 3, [1, 2, 3, 0], [[1, 2, 3, 4], [1, 2, 3, 4]], [[10, 10, 10, 10], [10, 10, 10, 10]]⟩, X, [rc], [], T, 0⟩
def F2 (P : List GPool) (B : List Int) (R : List GRoll) : GEnt := ⟨1, false, P, B, R, [-1, -1, -1, -1], [0, 0, 0, 0], []⟩
def F4 (l : List GLayer) : GPool := ⟨l, ⟨0, 0, 0⟩⟩
def F7 (l : List GLayer) : List GPool := [F4 [], F4 [], F4 l, F4 [], F4 [], F4 [], F4 [], F4 []]
def F3 (b0 g t r y s c : Int) : List Int := [b0, g, 0, 0, 0, 0, 0, 0, 0, 0, 0, 0, t, r, y, s, c]
end Go.Pv
