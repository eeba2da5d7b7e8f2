/- MatchBack: plain law. -/
import Derived.Test.YtbcjcecegdfnpaaGreatS7
set_option linter.unusedVariables false
set_option linter.unusedSimpArgs false
namespace Go.Pv
theorem matchBack_plain {a c : Int} (b : Bool) (ha : -9223372036854775808 ≤ a ∧ a ≤ 9223372036854775807) (hc : -9223372036854775808 ≤ c ∧ c ≤ 9223372036854775807) : d_law18_MatchBack 60 a b c = some true := by
  obtain ⟨p, e1, h1, h2⟩ := place_e (n := 100) (by decide) ha
  obtain ⟨q, e2, h3, h4⟩ := place_e (n := p + 2) (by omega) hc
  have e1' : d_law00_Place a 100 = some (p + 2 - 2) := by rw [e1, show p + 2 - 2 = p from by omega]
  have e2' : d_law00_Place c (p + 2) = some (q + 1 - 1) := by rw [e2, show q + 1 - 1 = q from by omega]
  cases b
  · exact mbF a c (p + 2) (q + 1) e1' (by omega) (by omega) e2' (by omega) (by omega)
  · exact mbT a c (p + 2) (q + 1) e1' (by omega) (by omega) e2' (by omega) (by omega)
end Go.Pv
