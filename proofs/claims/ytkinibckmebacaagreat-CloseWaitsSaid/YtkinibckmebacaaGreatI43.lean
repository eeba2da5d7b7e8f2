/- CloseWaits: the period settled. -/
import Derived.Test.YtkinibckmebacaaGreatF43
import Derived.Test.YtkinibckmebacaaGreatJ43
set_option linter.unusedSimpArgs false
set_option linter.unusedVariables false
namespace Go.Pv
open Go.Proofs
set_option maxRecDepth 100000
set_option maxHeartbeats 4000000
theorem partV {a b c : Int} (ha : 0 ≤ a ∧ a ≤ 12000) (hb : 0 ≤ b ∧ b < c) (hc : c ≤ 1000) {n : Nat} : d_money_Part (n + 12) a b c = some ((a * b).tdiv c) := by
  unfold d_money_Part
  exact v_bi (a := false) (v_F (by omega) (v_cF (v_F (by omega) (v_cF (v_F (by omega) (v_cF (v_bi (in_v (by omega)) (v_nT rfl)))))))) (v_as rfl (v_F (by omega) (v_as rfl (v_F (by omega) (v_as rfl (v_bi (muldiv_v (n := n) (by omega) (by omega) (by omega)) rfl))))))
theorem hasV {q v g : Int} (h : 1 ≤ g ∧ g ≤ q) (hq : q ≤ 1000) {n : Nat} : d_fifo_has (n + 1) [⟨q, v, 0⟩] g = some true := by
  have e1 : (if (0 : Int) > q then (0 : Int) else q) = q := by rw [if_neg (by omega)]
  have e2 : (if g < q then g else q) = g := by split <;> omega
  unfold d_fifo_has
  refine v_bi (a := .inr true) ?_ (v_sele rfl)
  rw [d_fifo_has_L0]
  refine v_T (by simp) (v_cT (v_ix (by omega) rfl ?_))
  show bnd (if (0 : Int) > q then (0 : Int) else q) _ = _
  rw [e1]
  refine v_bnd ?_
  rw [e2]
  exact v_bnd (v_w (by omega) (v_T (by omega) (v_cT rfl)))
theorem outV {q v g : Int} (h : 1 ≤ g ∧ g ≤ q) (hq : q ≤ 240) (hv : 0 ≤ v ∧ v ≤ 12000) {n : Nat} : d_mavg_Out (n + 20) (lay q v) g = some (lay (q - g) (v - (v * g).tdiv q), ⟨g, (v * g).tdiv q, 0⟩, 0) := by
  have hlay : lay q v = [⟨q, v, 0⟩] := by unfold lay; rw [if_neg (by omega)]
  have hc0 : 0 ≤ (v * g).tdiv q ∧ (v * g).tdiv q ≤ v := by
    have h1 : 0 ≤ v * g := Int.mul_nonneg hv.1 (by omega)
    have h2 : v * g ≤ v * q := Int.mul_le_mul_of_nonneg_left h.2 hv.1
    have h3 := Int.tdiv_nonneg h1 (show 0 ≤ q by omega)
    refine ⟨h3, ?_⟩
    rw [Int.tdiv_eq_ediv_of_nonneg h1]
    exact Int.ediv_le_of_le_mul (by omega) h2
  have key : d_fifo_Out (n + 20) (lay q v) g = some (lay (q - g) (v - (v * g).tdiv q), ⟨g, (v * g).tdiv q, 0⟩, 0) := by
    rw [hlay]
    unfold d_fifo_Out
    refine v_as (by simp) (v_F (by omega) (v_cF (v_bi (hasV h (by omega) (n := n + 19)) (v_nT (v_as rfl ?_)))))
    by_cases hqg : q > g
    · have hl2 : lay (q - g) (v - (v * g).tdiv q) = [⟨q - g, v - (v * g).tdiv q, 0⟩] := by unfold lay; rw [if_neg (by omega)]
      have p1 := partV (a := v) (b := g) (c := q) hv (by omega) (by omega) (n := n + 7)
      have p2' := partV (a := 0) (b := g) (c := q) (by omega) (by omega) (by omega) (n := n + 7)
      rw [Int.zero_mul, Int.zero_tdiv] at p2'
      refine v_bi (a := (0, 1, [⟨q - g, v - (v * g).tdiv q, 0⟩], ⟨g, (v * g).tdiv q, 0⟩)) ?_ ?_
      · rw [d_fifo_Out_L0]
        refine v_bi (a := true) (v_T (by simp) (v_cT (v_T (by omega) rfl))) (v_cT (v_as (by simp) (v_ix (by omega) rfl (v_T hqg ?_))))
        refine v_bi (a := (0, 1, [⟨q - g, v - (v * g).tdiv q, 0⟩], ⟨g, (v * g).tdiv q, 0⟩)) ?_ ?_
        · refine v_cT (v_bi p1 (v_bi p2' (v_as (by simp) (v_w (by dsimp only; omega) (v_as (by simp) (v_w (by dsimp only; omega) (v_as (by simp) (v_w (by dsimp only; omega) ?_))))))))
          exact v_as (by simp) (v_bnd (v_as (by simp) (v_bnd (v_as (by simp) (v_bnd rfl)))))
        · refine v_p2 (v_p2 (v_p2 (v_w (by dsimp only; omega) (v_w (by dsimp only; omega) (v_w (by dsimp only; omega) (v_w (by dsimp only; omega) ?_))))))
          rw [d_fifo_Out_L0]
          refine v_bi (a := false) (v_T (by simp) (v_cT (v_F (by dsimp only; omega) rfl))) (v_cF ?_)
          simp only [Int.zero_add]
      · rw [hl2]
        exact v_p2 (v_p2 (v_p2 (v_as (by simp) rfl)))
    · obtain rfl : q = g := by omega
      have ec : (v * q).tdiv q = v := Int.mul_tdiv_cancel _ (by omega)
      have hl2 : lay (q - q) (v - v) = [] := by unfold lay; rw [if_pos (by omega)]
      rw [ec, hl2]
      refine v_bi (a := (0, 0, [⟨q, v, 0⟩], ⟨q, v, 0⟩)) ?_ ?_
      · rw [d_fifo_Out_L0]
        refine v_bi (a := true) (v_T (by simp) (v_cT (v_T (by omega) rfl))) (v_cT (v_as (by simp) (v_ix (by omega) rfl (v_F hqg ?_))))
        refine v_bi (a := (0, 0, [⟨q, v, 0⟩], ⟨q, v, 0⟩)) ?_ ?_
        · exact v_cF (v_as (by simp) (v_bnd rfl))
        · refine v_p2 (v_p2 (v_p2 (v_w (by dsimp only; omega) (v_w (by dsimp only; omega) (v_w (by dsimp only; omega) (v_w (by dsimp only; omega) ?_))))))
          rw [d_fifo_Out_L0]
          refine v_bi (a := false) (v_F (by simp) (v_cF rfl)) (v_cF ?_)
          simp only [Int.zero_add]
      · exact v_p2 (v_p2 (v_p2 (v_as (by simp) rfl)))
  unfold d_mavg_Out
  exact v_bi rfl (v_bi key rfl)
theorem out0 {l : List GLayer} (hl : l.length ≤ 1000) {n : Nat} : d_mavg_Out n l 0 = some (l, ⟨0, 0, 0⟩, 1) := by
  unfold d_mavg_Out d_fifo_Out
  exact v_bi rfl (v_bi (v_as (by omega) (v_T (by decide) (v_cT rfl))) rfl)
theorem settlV {q v g : Int} (h : 1 ≤ g ∧ g ≤ q) (hq : q ≤ 240) (hv : 0 ≤ v ∧ v ≤ 12000) {n : Nat} : d_pavg_Settle (n + 20) ⟨lay q v, ⟨g, 0, 0⟩⟩ = some (⟨lay (q - g) (v - (v * g).tdiv q), ⟨0, 0, 0⟩⟩, ⟨⟨g, (v * g).tdiv q, 0⟩, ⟨0, 0, 0⟩, ⟨0, 0, 0⟩⟩) := by
  have h1 := outV h hq hv (n := n)
  have hl := layLen q v
  have hl2 := layLen (q - g) (v - (v * g).tdiv q)
  have h0 := out0 (l := lay (q - g) (v - (v * g).tdiv q)) (by omega) (n := n + 20)
  generalize (v * g).tdiv q = k at *
  unfold d_pavg_Settle
  refine v_bi (ownV (by omega)) (v_bi rfl (v_bi rfl (v_bi rfl ?_)))
  refine v_bi (a := (⟨lay (q - g) (v - k), ⟨g, 0, 0⟩⟩, g, k, 0, 0, 0, 0, 0, 0, 0)) ?_ ?_
  · refine v_bi (a := (⟨lay (q - g) (v - k), ⟨g, 0, 0⟩⟩, g, k, 0)) (v_bi h1 (v_T rfl (v_cT rfl))) ?_
    refine v_p2 (v_p2 (v_p2 ?_))
    refine v_bi (a := (⟨lay (q - g) (v - k), ⟨g, 0, 0⟩⟩, 0, 0, 0)) (v_bi h0 (v_F (show ¬ ((1 : Int) = 0) by decide) (v_cF rfl))) ?_
    refine v_p2 (v_p2 (v_p2 ?_))
    refine v_bi (a := (⟨lay (q - g) (v - k), ⟨g, 0, 0⟩⟩, 0, 0, 0)) (v_bi h0 (v_F (show ¬ ((1 : Int) = 0) by decide) (v_cF rfl))) ?_
    exact v_p2 (v_p2 (v_p2 rfl))
  · exact v_p2 (v_p2 (v_p2 (v_p2 (v_p2 (v_p2 (v_p2 (v_p2 (v_p2 rfl))))))))
end Go.Pv
