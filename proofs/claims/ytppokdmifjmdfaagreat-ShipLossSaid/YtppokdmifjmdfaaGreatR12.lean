/- ShipLoss: plain law. -/
import Derived.Test.YtppokdmifjmdfaaGreatS12
set_option linter.unusedVariables false
set_option linter.unusedSimpArgs false
namespace Go.Pv
theorem shipLoss_plain {a b c : Int} (ha : -9223372036854775808 ≤ a ∧ a ≤ 9223372036854775807) (hb : -9223372036854775808 ≤ b ∧ b ≤ 9223372036854775807) (hc : -9223372036854775808 ≤ c ∧ c ≤ 9223372036854775807) : d_law20_ShipLoss 80 a b c = some true := by
  obtain ⟨q, e1, q0, q1⟩ := place_e (n := 60) (by decide) ha
  obtain ⟨p, e2, p0, p1⟩ := place_e (n := 10 * (q + 2)) (by omega) hb
  obtain ⟨k, e3, k0, k1⟩ := place_e (n := q + 2 - 1) (by omega) hc
  have e1' : d_law00_Place a 60 = some (q + 2 - 2) := by rw [e1, show q + 2 - 2 = q from by omega]
  have e3' : d_law00_Place c (q + 2 - 1) = some (k + 1 - 1) := by rw [e3, show k + 1 - 1 = k from by omega]
  generalize hn : q + 2 = n at *
  generalize hm : k + 1 = m at *
  have b1 : 0 ≤ m * p := Int.mul_nonneg (by omega) p0
  have b2 : m * p ≤ n * p := Int.mul_le_mul_of_nonneg_right (by omega) p0
  have b3 : n * p ≤ 61 * p := Int.mul_le_mul_of_nonneg_right (by omega) p0
  have b4 : m * p ≤ m * (10 * n) := Int.mul_le_mul_of_nonneg_left (by omega) (by omega)
  have b5 : m * (10 * n) = 10 * m * n := by grind
  have b6 : 10 * m * n ≤ 10 * n * n := by
    have : m * (10 * n) ≤ n * (10 * n) := Int.mul_le_mul_of_nonneg_right (by omega) (by omega)
    have e : n * (10 * n) = 10 * n * n := by grind
    omega
  have b7 : 10 * n * n ≤ 10 * n * 61 := Int.mul_le_mul_of_nonneg_left (by omega) (by omega)
  have b8 : 10 * m * n - m * p = m * (10 * n - p) := by grind
  have b9 : m * (10 * n - p) ≤ n * (10 * n - p) := Int.mul_le_mul_of_nonneg_right (by omega) (by omega)
  refine sl a b c n m p e1' (by omega) (by omega) e2 p0 p1 e3' (by omega) (by omega) b1 (by omega) (Int.ediv_nonneg b1 (by omega)) ?_ (by omega) (by omega) (Int.ediv_nonneg (by omega) (by omega)) ?_
  · exact Int.ediv_le_of_le_mul (by omega) (by rw [Int.mul_comm p n]; exact b2)
  · exact Int.ediv_le_of_le_mul (by omega) (by rw [b8, Int.mul_comm (10 * n - p) n]; exact b9)
end Go.Pv
