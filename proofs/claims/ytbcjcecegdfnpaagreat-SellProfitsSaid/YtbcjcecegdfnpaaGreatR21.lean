/- SellProfits: plain law. -/
import Derived.Test.YtbcjcecegdfnpaaGreatS21
import Derived.Test.YtbcjcecegdfnpaaGreatP21
set_option linter.unusedSimpArgs false
set_option linter.unusedVariables false
namespace Go.Pv
theorem sellProfits_plain {a b c d e : Int} (ha : -9223372036854775808 ≤ a ∧ a ≤ 9223372036854775807) (hb : -9223372036854775808 ≤ b ∧ b ≤ 9223372036854775807) (hc : -9223372036854775808 ≤ c ∧ c ≤ 9223372036854775807) (hd : -9223372036854775808 ≤ d ∧ d ≤ 9223372036854775807)
    (he : -9223372036854775808 ≤ e ∧ e ≤ 9223372036854775807) : d_law16_SellProfits 60 a b c d e = some true := by
  obtain ⟨i, e1, i0, i1⟩ := place_e (n := 2) (by decide) ha
  obtain ⟨n0, e2, n0a, n0b⟩ := place_e (n := 50) (by decide) hb
  obtain ⟨w, e3, w0, w1⟩ := place_e (n := 3000) (by decide) hc
  obtain ⟨k0, e4, k0a, k0b⟩ := place_e (n := n0 + 1) (by omega) hd
  obtain ⟨j0, e5, j0a, j0b⟩ := place_e (n := k0 + 1) (by omega) he
  have e2' : d_law00_Place b 50 = some (n0 + 1 - 1) := by rw [e2, show n0 + 1 - 1 = n0 from by omega]
  have e3' : d_law00_Place c 3000 = some (w - 1000 + 1000) := by rw [e3, show w - 1000 + 1000 = w from by omega]
  have e4' : d_law00_Place d (n0 + 1) = some (k0 + 1 - 1) := by rw [e4, show k0 + 1 - 1 = k0 from by omega]
  have e5' : d_law00_Place e (k0 + 1) = some (j0 + 1 - 1) := by rw [e5, show j0 + 1 - 1 = j0 from by omega]
  generalize hn : n0 + 1 = n at *
  generalize hv : w - 1000 = v at *
  generalize hk : k0 + 1 = k at *
  generalize hj : j0 + 1 = j at *
  have hi : i = 0 ∨ i = 1 := by omega
  by_cases hkn : k < n
  · have bx := tdiv_b (v := v) (q := k) (m := n) (by omega) (by omega) (by omega)
    have by_ := tdiv_b (v := Int.tdiv (k * v) n) (q := j) (m := k) (by omega) (by omega) bx
    have g := mul_b (q := k) (v := v) (by omega) (by omega)
    have g' := mul_b (q := j) (v := Int.tdiv (k * v) n) (by omega) bx
    have p1 := part20 (n := 47) (a := 20 * n) (q := k) (m := n) (by omega) (by omega) rfl
    have p2 := part_t (n := 47) (v := v) (q := k) (m := n) (by omega) (by omega) (by omega)
    have p3 := part20 (n := 48) (a := 20 * k) (q := j) (m := k) (by omega) (by omega) rfl
    have p4 := part_t (n := 48) (v := Int.tdiv (k * v) n) (q := j) (m := k) (by omega) (by omega) (by omega)
    rcases hi with rfl | rfl
    · exact sp0 a b c d e n v k j _ _ e1 e2' (by omega) (by omega) e3' (by omega) (by omega) e4' (by omega) hkn e5' (by omega) (by omega) p1 p2 p3 p4 rfl rfl bx.1 bx.2 by_.1 by_.2 g.1 g.2 g'.1 g'.2
    · exact sp1 a b c d e n v k j _ _ e1 e2' (by omega) (by omega) e3' (by omega) (by omega) e4' (by omega) hkn e5' (by omega) (by omega) p1 p2 p3 p4 rfl rfl bx.1 bx.2 by_.1 by_.2 g.1 g.2 g'.1 g'.2
  · have ek : k = n := by omega
    subst ek
    have by_ := tdiv_b (v := v) (q := j) (m := k) (by omega) (by omega) (by omega)
    have g := mul_b (q := k) (v := v) (by omega) (by omega)
    have g' := mul_b (q := j) (v := v) (by omega) (by omega)
    have p3 := part20 (n := 48) (a := 20 * k) (q := j) (m := k) (by omega) (by omega) rfl
    have p4 := part_t (n := 48) (v := v) (q := j) (m := k) (by omega) (by omega) (by omega)
    have t1 : Int.tdiv (k * v) k = v := Int.mul_tdiv_cancel_left _ (by omega)
    rcases hi with rfl | rfl
    · exact sq0 a b c d e k v j _ e1 e2' (by omega) (by omega) e3' (by omega) (by omega) e4' e5' (by omega) (by omega) p3 p4 t1 rfl by_.1 by_.2 g.1 g.2 g'.1 g'.2
    · exact sq1 a b c d e k v j _ e1 e2' (by omega) (by omega) e3' (by omega) (by omega) e4' e5' (by omega) (by omega) p3 p4 t1 rfl by_.1 by_.2 g.1 g.2 g'.1 g'.2
end Go.Pv
