/- Tables. -/
import Derived.Test.YtpbcnilkippahaaQ53
import Derived.Test.YtpbcnilkippahaaPlV
set_option linter.unusedSimpArgs false
set_option linter.unusedVariables false
namespace Go.Pv
open Go.Proofs
set_option maxRecDepth 100000
set_option maxHeartbeats 4000000
theorem place_e {a n : Int} (hn : 1 ≤ n ∧ n ≤ 1099511627776) (ha : -9223372036854775808 ≤ a ∧ a ≤ 9223372036854775807) : ∃ p, d_law00_Place a n = some p ∧ 0 ≤ p ∧ p < n := by
  have h1 := Int.tmod_lt_of_pos a (show 0 < n by omega)
  have h2 := Int.lt_tmod_of_pos a (show 0 < n by omega)
  unfold d_law00_Place asrt
  rw [if_pos (by omega)]
  by_cases h : Int.tmod a n < 0
  · refine ⟨Int.tmod a n + n, ?_, by omega, by omega⟩
    show (cond (decide (Int.tmod a n < 0)) (some (w64 (Int.tmod a n + n))) (some (Int.tmod a n))).bind _ = _
    rw [decide_eq_true h, show w64 (Int.tmod a n + n) = Int.tmod a n + n from wrap64 (by omega)]; rfl
  · refine ⟨Int.tmod a n, ?_, by omega, by omega⟩
    show (cond (decide (Int.tmod a n < 0)) (some (w64 (Int.tmod a n + n))) (some (Int.tmod a n))).bind _ = _
    rw [decide_eq_false h]; rfl
theorem T.lenA {α : Type} {l : List α} {x : α} {k : Nat} (h : l.length + 1 ≤ k) : (l ++ [x]).length ≤ k := by rw [List.length_append]; exact h
theorem T.lenS {α : Type} {l : List α} {i : Nat} {x : α} {e : Int} (h : e < (l.length : Int)) : ¬ e ≥ ((l.set i x).length : Int) := by rw [List.length_set]; omega
theorem T.okS {A : Type} {tab : List (T.E A)} (h : T.AllE tab := by repeat (first | exact T.okN | refine T.okC (by first | exact T.okT (by omega) | exact T.okF (by omega) | exact T.okW (by omega) | exact T.okT rfl | exact T.okW ⟨by grind, by omega, by omega⟩ | exact T.okW (by rw [Int.tdiv_eq_ediv_of_nonneg (by omega)]; omega) | exact T.okO (by with_reducible assumption) | exact T.okT (T.lenA (by omega)) | exact T.okF (T.lenS (by omega)) | exact T.okT (by congr 1 <;> omega) | exact T.okT (by simp; done) | exact T.okF (by simp; done) | exact T.okF (by simp; omega) | exact T.okWn rfl (by first | omega | grind) (by omega) ⟨by omega, by omega⟩) ?_)) : T.AllE tab := h
end Go.Pv
