/- Numbers as bytes: the plain laws. -/
import Derived.Test.YtogdmdlpnhbjkaaGreatPvM
set_option linter.unusedSimpArgs false
set_option linter.unusedVariables false
namespace Go.Pv
def rd : List UInt8 → Nat → Nat → Option (Nat × List UInt8)
  | [], _, _ => none
  | c :: r, i, u =>
    if 9 < i ∨ (i = 9 ∧ 1 < c.toNat) then none
    else if 128 ≤ c.toNat then rd r (i + 1) (u + c.toNat % 128 * 2 ^ (7 * i))
    else if c.toNat = 0 ∧ 0 < i then none
    else some (u + c.toNat % 128 * 2 ^ (7 * i), r)
def zz (v : Int) : Nat := if v < 0 then (-(2 * v) - 1).toNat else (2 * v).toNat
end Go.Pv
