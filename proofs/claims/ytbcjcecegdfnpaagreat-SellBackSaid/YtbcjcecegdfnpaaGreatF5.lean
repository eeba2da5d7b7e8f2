/- SellBack: the states on its way. -/
import Derived.Test.YtbcjcecegdfnpaaGreatN5
set_option linter.unusedVariables false
set_option linter.unusedSimpArgs false
namespace Go.Pv
def F1 (P : List GPool) (B : List Int) (R : List GRoll) (S : List GSale) (rc : GReceipt) : GState :=
  ⟨⟨2, 3, [1, 2, 3, 0], [[1, 2, 3, 4], [1, 2, 3, 4]], [[10, 10, 10, 10], [10, 10, 10, 10]]⟩,
   [⟨1, false, P, B, R, [-1, -1, -1, -1], [0, 0, 0, 0], []⟩,
    ⟨1, false, [⟨[], ⟨0, 0, 0⟩⟩, ⟨[], ⟨0, 0, 0⟩⟩, ⟨[], ⟨0, 0, 0⟩⟩, ⟨[], ⟨0, 0, 0⟩⟩, ⟨[], ⟨0, 0, 0⟩⟩, ⟨[], ⟨0, 0, 0⟩⟩, ⟨[], ⟨0, 0, 0⟩⟩, ⟨[], ⟨0, 0, 0⟩⟩], [0, 0, 0, 0, 0, 0, 0, 0, 0, 0, 0, 0, 0, 0, 0, 0, 0], [⟨0, 0, 0, 0, 0, 0, 0, 0, 0, 0, 0⟩, ⟨0, 0, 0, 0, 0, 0, 0, 0, 0, 0, 0⟩, ⟨0, 0, 0, 0, 0, 0, 0, 0, 0, 0, 0⟩, ⟨0, 0, 0, 0, 0, 0, 0, 0, 0, 0, 0⟩], [-1, -1, -1, -1], [0, 0, 0, 0], []⟩], [rc], S, [], 0⟩
def F2 (i g r s c : Int) : List Int := [i, g, 0, r, s, c, 0, 0, 0, 0, 0, 0, 0, 0, 0, 0, 0]
def F3 (v : Int) : GRoll := ⟨0, v, 0, 0, 0, 0, 0, 0, 0, 0, 0⟩
def F4 (l : List GLayer) (k : Int) : GPool := ⟨l, ⟨k, 0, 0⟩⟩
def F6 (n v i : Int) : GReceipt := ⟨0, i, 0, n, v, n, v, 0⟩
def F70 (x : GPool) : List GPool := [x, F4 [] 0, F4 [] 0, F4 [] 0, F4 [] 0, F4 [] 0, F4 [] 0, F4 [] 0]
def F71 (x : GPool) : List GPool := [F4 [] 0, F4 [] 0, x, F4 [] 0, F4 [] 0, F4 [] 0, F4 [] 0, F4 [] 0]
def F72 (x : GPool) : List GPool := [F4 [] 0, F4 [] 0, F4 [] 0, F4 [] 0, x, F4 [] 0, F4 [] 0, F4 [] 0]
def F73 (x : GPool) : List GPool := [F4 [] 0, F4 [] 0, F4 [] 0, F4 [] 0, F4 [] 0, F4 [] 0, x, F4 [] 0]
end Go.Pv
