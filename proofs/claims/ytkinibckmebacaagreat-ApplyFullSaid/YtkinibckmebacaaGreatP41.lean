/- Numbers as ones from 0 on. -/
import Derived.Test.YtkinibckmebacaaGreatK41c
import Derived.Test.YtkinibckmebacaaGreatPlV
set_option linter.unusedSimpArgs false
set_option linter.unusedVariables false
namespace Go.Pv
theorem place_e {a n : Int} (hn : 1 ≤ n ∧ n ≤ 1099511627776) (ha : -9223372036854775808 ≤ a ∧ a ≤ 9223372036854775807) : ∃ p, d_law00_Place a n = some p ∧ 0 ≤ p ∧ p < n := by
  have h1 := Int.tmod_lt_of_pos a (show 0 < n by omega)
  have h2 := Int.lt_tmod_of_pos a (show 0 < n by omega)
  unfold d_law00_Place asrt
  rw [if_pos (by omega)]
  by_cases h : Int.tmod a n < 0
  · refine ⟨Int.tmod a n + n, ?_, by omega, by omega⟩
    show (cond (decide (Int.tmod a n < 0)) (some (w64 (Int.tmod a n + n))) (some (Int.tmod a n))).bind _ = _
    rw [decide_eq_true h, show w64 (Int.tmod a n + n) = Int.tmod a n + n from wrap64 (by omega)]; rfl
  · refine ⟨Int.tmod a n, ?_, by omega, by omega⟩
    show (cond (decide (Int.tmod a n < 0)) (some (w64 (Int.tmod a n + n))) (some (Int.tmod a n))).bind _ = _
    rw [decide_eq_false h]; rfl
end Go.Pv
