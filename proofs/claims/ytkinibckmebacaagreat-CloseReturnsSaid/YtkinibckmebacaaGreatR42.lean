/- CloseReturns: plain law. -/
import Derived.Test.YtkinibckmebacaaGreatS42
set_option linter.unusedSimpArgs false
set_option linter.unusedVariables false
namespace Go.Pv
theorem cr_div {v w k : Int} (h1 : 0 ≤ v) (h3 : 0 ≤ w) (h5 : 1 ≤ k) (h6 : k ≤ 20) (g1 : 0 ≤ k * v) (g1' : 0 ≤ k * w) : 0 ≤ (k * v + k * w) / 20 ∧ (k * v + k * w) / 20 ≤ v + w := by
  have e1 : k * v ≤ 20 * v := Int.mul_le_mul_of_nonneg_right h6 h1
  have e2 : k * w ≤ 20 * w := Int.mul_le_mul_of_nonneg_right h6 h3
  omega
theorem closeReturns_plain {a b c : Int} (ha : -9223372036854775808 ≤ a ∧ a ≤ 9223372036854775807) (hb : -9223372036854775808 ≤ b ∧ b ≤ 9223372036854775807) (hc : -9223372036854775808 ≤ c ∧ c ≤ 9223372036854775807) :
    d_law23_CloseReturns 60 a b c = some true := by
  obtain ⟨v, e1, h1, h2⟩ := place_e (n := 1000) (by decide) ha
  obtain ⟨w, e2, h3, h4⟩ := place_e (n := 1000) (by decide) hb
  obtain ⟨p, e3, h5, h6⟩ := place_e (n := 20) (by decide) hc
  obtain ⟨k, rfl⟩ : ∃ k : Int, p = k - 1 := ⟨p + 1, by omega⟩
  have g1 : 0 ≤ k * v := Int.mul_nonneg (by omega) h1
  have g1' : 0 ≤ k * w := Int.mul_nonneg (by omega) h3
  have e1' : k * v ≤ 20 * v := Int.mul_le_mul_of_nonneg_right (by omega) h1
  have e2' : k * w ≤ 20 * w := Int.mul_le_mul_of_nonneg_right (by omega) h3
  have g := cr_div h1 h3 (by omega : 1 ≤ k) (by omega) g1 g1'
  exact cr a b c v w k e1 h1 h2 e2 h3 h4 e3 (by omega) (by omega) g1 g1' (by omega) (by omega) g.1 g.2 (by
    by_cases hk : k < 20
    · exact .inl hk
    · have : k = 20 := by omega
      subst this
      right; omega)
end Go.Pv
