/- ShipBooks: plain law. -/
import Derived.Test.YtppokdmifjmdfaaGreatS11
set_option linter.unusedVariables false
set_option linter.unusedSimpArgs false
namespace Go.Pv
theorem shipBooks_plain {a b c d : Int} (ha : -9223372036854775808 ≤ a ∧ a ≤ 9223372036854775807) (hb : -9223372036854775808 ≤ b ∧ b ≤ 9223372036854775807) (hc : -9223372036854775808 ≤ c ∧ c ≤ 9223372036854775807) (hd : -9223372036854775808 ≤ d ∧ d ≤ 9223372036854775807) : d_law20_ShipBooks 80 a b c d = some true := by
  obtain ⟨i, e1, i0, i1⟩ := place_e (n := 4) (by decide) ha
  obtain ⟨q, e2, q0, q1⟩ := place_e (n := 100) (by decide) hb
  obtain ⟨p, e4, p0, p1⟩ := place_e (n := 5000) (by decide) hd
  obtain ⟨m, e3, m0, m1⟩ := place_e (n := q + 1) (by omega) hc
  have e2' : d_law00_Place b 100 = some (q + 1 - 1) := by rw [e2, show q + 1 - 1 = q from by omega]
  have e3' : d_law00_Place c (q + 1) = some (m + 1 - 1) := by rw [e3, show m + 1 - 1 = m from by omega]
  have hi : i = 0 ∨ i = 1 ∨ i = 2 ∨ i = 3 := by omega
  rcases hi with rfl | rfl | rfl | rfl
  · exact sb0 a b c d (q + 1) (m + 1) p e1 e2' (by omega) (by omega) e4 p0 p1 e3' (by omega) (by omega)
  · exact sb1 a b c d (q + 1) (m + 1) p e1 e2' (by omega) (by omega) e4 p0 p1 e3' (by omega) (by omega)
  · exact sb2 a b c d (q + 1) (m + 1) p e1 e2' (by omega) (by omega) e4 p0 p1 e3' (by omega) (by omega)
  · exact sb3 a b c d (q + 1) (m + 1) p e1 e2' (by omega) (by omega) e4 p0 p1 e3' (by omega) (by omega)
end Go.Pv
