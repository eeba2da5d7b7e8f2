/- SellWaits: plain law. -/
import Derived.Test.YtbcjcecegdfnpaaGreatS2
set_option linter.unusedVariables false
set_option linter.unusedSimpArgs false
namespace Go.Pv
theorem sellWaits_plain {a b : Int} (ha : -9223372036854775808 ≤ a ∧ a ≤ 9223372036854775807) (hb : -9223372036854775808 ≤ b ∧ b ≤ 9223372036854775807) : d_law16_SellWaits 60 a b = some true := by
  obtain ⟨p, e1, h1, h2⟩ := place_e (n := 200) (by decide) ha
  obtain ⟨k, e2, h3, h4⟩ := place_e (n := 1 + p) (by omega) hb
  exact sw a b p k e1 h1 h2 e2 h3 (by omega)
end Go.Pv
