/- MatchTwo: plain law. -/
import Derived.Test.YtbcjcecegdfnpaaGreatS3
set_option linter.unusedVariables false
set_option linter.unusedSimpArgs false
namespace Go.Pv
theorem matchTwo_plain {a b c : Int} (ha : -9223372036854775808 ≤ a ∧ a ≤ 9223372036854775807) (hb : -9223372036854775808 ≤ b ∧ b ≤ 9223372036854775807) (hc : -9223372036854775808 ≤ c ∧ c ≤ 9223372036854775807) : d_law18_MatchTwo 60 a b c = some true := by
  obtain ⟨p, e1, h1, h2⟩ := place_e (n := 1000) (by decide) ha
  obtain ⟨q, e2, h3, h4⟩ := place_e (n := 1000) (by decide) hb
  obtain ⟨k, e3, h5, h6⟩ := place_e (n := 2) (by decide) hc
  have hk : k = 0 ∨ k = 1 := by omega
  rcases hk with rfl | rfl
  · exact mt0 a b c p q e1 h1 h2 e2 h3 h4 e3
  · exact mt1 a b c p q e1 h1 h2 e2 h3 h4 e3
end Go.Pv
