/- ShipErrors: plain law. -/
import Derived.Test.YtbcjcecegdfnpaaGreatS8
set_option linter.unusedVariables false
set_option linter.unusedSimpArgs false
namespace Go.Pv
theorem shipErrors_plain {a b : Int} (ha : -9223372036854775808 ≤ a ∧ a ≤ 9223372036854775807) (hb : -9223372036854775808 ≤ b ∧ b ≤ 9223372036854775807) : d_law20_ShipErrors 60 a b = some true := by
  obtain ⟨p, e1, h1, h2⟩ := place_e (n := 20) (by decide) hb
  obtain ⟨k, e2, h3, h4⟩ := place_e (n := 6) (by decide) ha
  have e1' : d_law00_Place b 20 = some (p + 1 - 1) := by rw [e1, show p + 1 - 1 = p from by omega]
  have hk : k = 0 ∨ k = 1 ∨ k = 2 ∨ k = 3 ∨ k = 4 ∨ k = 5 := by omega
  rcases hk with rfl | rfl | rfl | rfl | rfl | rfl
  · exact se0 a b (p + 1) e1' (by omega) (by omega) e2
  · exact se1 a b (p + 1) e1' (by omega) (by omega) e2
  · exact se2 a b (p + 1) e1' (by omega) (by omega) e2
  · exact se3 a b (p + 1) e1' (by omega) (by omega) e2
  · exact se4 a b (p + 1) e1' (by omega) (by omega) e2
  · exact se5 a b (p + 1) e1' (by omega) (by omega) e2
end Go.Pv
