/- SellProfits: parts. -/
import Derived.Test.YtbcjcecegdfnpaaGreatM21
set_option linter.unusedSimpArgs false
set_option linter.unusedVariables false
namespace Go.Pv
open Go.Proofs
theorem part_t {n : Nat} {v q m : Int} (hv : -100000 ≤ v ∧ v ≤ 100000) (hm : 1 ≤ m ∧ m ≤ 1000) (hq : 0 ≤ q ∧ q ≤ m) : d_money_Part (n + 12) v q m = some (Int.tdiv (q * v) m) := by
  have hin : d_money_in v = some true := v_bi (v_T (by omega) (v_cT (v_T (by omega) rfl))) rfl
  unfold d_money_Part
  refine v_bi (a := false) ?_ (v_cF ?_)
  · exact v_F (by omega) (v_cF (v_F (by omega) (v_cF (v_F (by omega) (v_cF (v_bi hin rfl))))))
  by_cases c : q = m
  · refine v_T c (v_cT ?_)
    rw [c, Int.mul_tdiv_cancel_left _ (by omega)]
  · refine v_F c (v_cF ?_)
    by_cases c2 : v < 0
    · refine v_T c2 (v_cT (v_w (by omega) (v_bi (muldiv_v (n := n) (a := 0 - v) (b := q) (c := m) (by omega) (by omega) (by omega)) ?_)))
      have e : Int.tdiv (q * v) m = 0 - Int.tdiv ((0 - v) * q) m := by
        rw [show q * v = -((0 - v) * q) from by grind, Int.neg_tdiv]; omega
      have h0 : 0 ≤ (0 - v) * q := Int.mul_nonneg (by omega) (by omega)
      have h1 : Int.tdiv ((0 - v) * q) m ≤ 100000 := by
        rw [Int.tdiv_eq_ediv_of_nonneg h0]
        exact Int.le_trans (Int.ediv_le_of_le_mul (by omega) (Int.mul_le_mul_of_nonneg_left hq.2 (by omega))) (show 0 - v ≤ 100000 by omega)
      have h2 : 0 ≤ Int.tdiv ((0 - v) * q) m := Int.tdiv_nonneg h0 (by omega)
      rw [e]
      exact v_w (by dsimp only; omega) rfl
    · refine v_F c2 (v_cF (v_bi (muldiv_v (n := n) (a := v) (b := q) (c := m) (by omega) (by omega) (by omega)) ?_))
      rw [Int.mul_comm q v]
theorem tdiv_b {v q m : Int} (hm : 1 ≤ m) (hq : 0 ≤ q ∧ q ≤ m) (hv : -1000 ≤ v ∧ v < 2000) : -1000 ≤ Int.tdiv (q * v) m ∧ Int.tdiv (q * v) m < 2000 := by
  by_cases c : v < 0
  · have h0 : 0 ≤ q * (0 - v) := Int.mul_nonneg hq.1 (by omega)
    have e : Int.tdiv (q * v) m = - Int.tdiv (q * (0 - v)) m := by
      rw [show q * v = -(q * (0 - v)) from by grind, Int.neg_tdiv]
    have h1 : Int.tdiv (q * (0 - v)) m ≤ 0 - v := by
      rw [Int.tdiv_eq_ediv_of_nonneg h0]
      refine Int.ediv_le_of_le_mul (by omega) ?_
      rw [Int.mul_comm (0 - v) m]; exact Int.mul_le_mul_of_nonneg_right hq.2 (by omega)
    have h2 : 0 ≤ Int.tdiv (q * (0 - v)) m := Int.tdiv_nonneg h0 (by omega)
    omega
  · have h0 : 0 ≤ q * v := Int.mul_nonneg hq.1 (by omega)
    have h1 : Int.tdiv (q * v) m ≤ v := by
      rw [Int.tdiv_eq_ediv_of_nonneg h0]
      refine Int.ediv_le_of_le_mul (by omega) ?_
      rw [Int.mul_comm v m]; exact Int.mul_le_mul_of_nonneg_right hq.2 (by omega)
    have h2 : 0 ≤ Int.tdiv (q * v) m := Int.tdiv_nonneg h0 (by omega)
    omega
theorem mul_b {q v : Int} (hq : 1 ≤ q ∧ q ≤ 50) (hv : -1000 ≤ v ∧ v < 2000) : -100000 ≤ q * v ∧ q * v ≤ 100000 := by
  have h1 : q * v ≤ q * 2000 := Int.mul_le_mul_of_nonneg_left (by omega) (by omega)
  have h2 : q * (-1000) ≤ q * v := Int.mul_le_mul_of_nonneg_left (by omega) (by omega)
  omega
theorem part20 {n : Nat} {a q m : Int} (hm : 1 ≤ m ∧ m ≤ 50) (hq : 1 ≤ q ∧ q ≤ m) (ha : a = 20 * m) : d_money_Part (n + 12) a q m = some (20 * q) := by
  rw [part_t (by omega) (by omega) (by omega), ha, show q * (20 * m) = m * (20 * q) from by grind, Int.mul_tdiv_cancel_left _ (by omega)]
end Go.Pv
