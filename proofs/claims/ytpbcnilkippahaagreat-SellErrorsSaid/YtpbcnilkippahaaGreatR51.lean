/- SellErrors: plain law. -/
import Derived.Test.YtpbcnilkippahaaGreatP51
set_option linter.unusedSimpArgs false
set_option linter.unusedVariables false
namespace Go.Pv
set_option maxRecDepth 1000000
theorem same51 {a b p q : Int} (h2 : d_law00_Place b 20 = some q) (h1 : d_law00_Place a 6 = some p) (k2 : d_law00_Place q 20 = some q) (k1 : d_law00_Place p 6 = some p) : d_law16_SellErrors 100 a b = d_law16_SellErrors 100 p q := by
  unfold d_law16_SellErrors
  rw [h2, k2, h1, k1]
theorem all51 : ∀ p : Fin 6, ∀ q : Fin 20, d_law00_Place (p.val : Int) 6 = some (p.val : Int) ∧ d_law00_Place (q.val : Int) 20 = some (q.val : Int) ∧ d_law16_SellErrors 100 (p.val : Int) (q.val : Int) = some true := by
  decide +kernel
theorem plain51 {a b : Int} (ha : -9223372036854775808 ≤ a ∧ a ≤ 9223372036854775807) (hb : -9223372036854775808 ≤ b ∧ b ≤ 9223372036854775807) : d_law16_SellErrors 100 a b = some true := by
  obtain ⟨p, e, h1, h2⟩ := place_e (n := 6) (by decide) ha
  obtain ⟨q, f, h3, h4⟩ := place_e (n := 20) (by decide) hb
  obtain ⟨p, rfl⟩ := Int.eq_ofNat_of_zero_le h1
  obtain ⟨q, rfl⟩ := Int.eq_ofNat_of_zero_le h3
  obtain ⟨k1, k2, k⟩ := all51 ⟨p, by omega⟩ ⟨q, by omega⟩
  exact (same51 f e k2 k1).trans k
end Go.Pv
