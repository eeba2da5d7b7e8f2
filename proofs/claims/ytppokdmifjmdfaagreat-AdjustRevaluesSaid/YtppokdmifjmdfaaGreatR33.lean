/- AdjustRevalues: plain law. -/
import Derived.Test.YtppokdmifjmdfaaGreatS33
set_option linter.unusedSimpArgs false
set_option linter.unusedVariables false
namespace Go.Pv
open Go.Proofs
set_option maxRecDepth 100000
set_option maxHeartbeats 2000000
theorem auto17 {α : Type} {D : Option α} {r : α} (h : D = some r := by unfold d_law17_AdjustRevalues; repeat (first | with_reducible exact v_end | ((with_reducible refine v_fin ?_); (exact rfl)) | ((with_reducible refine v_w ?_ ?_); · first | omega | decide | (dsimp only; omega) | (simp; done) | (simp; omega)) | ((with_reducible refine v_wu ?_ ?_); · first | omega | decide | (dsimp only; omega) | (simp; done) | (simp; omega)) | ((with_reducible refine v_T ?_ ?_); · first | omega | decide | (dsimp only; omega) | (simp; done) | (simp; omega) | (exact of_decide_eq_true rfl)) | ((with_reducible refine v_F ?_ ?_); · first | omega | decide | (dsimp only; omega) | (simp; done) | (simp; omega) | (exact of_decide_eq_true rfl)) | with_reducible refine v_nT ?_ | with_reducible refine v_nF ?_ | with_reducible refine v_cT ?_ | with_reducible refine v_cF ?_ | ((with_reducible refine v_as ?_ ?_); · first | omega | decide | (dsimp only; omega) | (simp; done) | (simp; omega) | (exact of_decide_eq_true rfl)) | ((with_reducible apply v_ix); (first | omega | decide | (simp; done) | (dsimp only [List.length_cons, List.length_nil]; omega)); (exact rfl)) | with_reducible refine v_p2 ?_ | with_reducible refine v_selb ?_ | with_reducible refine v_sele ?_ | with_reducible refine v_selrl ?_ | with_reducible refine v_selrr ?_ | ((with_reducible refine v_ifT ?_ ?_); · first | omega | decide | (dsimp only; omega)) | ((with_reducible refine v_ifF ?_ ?_); · first | omega | decide | (dsimp only; omega)) | with_reducible refine v_bi (by assumption) ?_ | with_reducible refine v_brk ?_ | with_reducible refine v_esc ?_ | dsimp only [List.nil_append, List.cons_append] | with_reducible apply v_bi | with_reducible refine v_bnd ?_)) : D = some r := h
theorem aw17 : d_law17_awake 80 = some true := by decide +kernel
theorem adjustRevalues_plain {a b d : Int} (ha : -9223372036854775808 ≤ a ∧ a ≤ 9223372036854775807) (hb : -9223372036854775808 ≤ b ∧ b ≤ 9223372036854775807) (hc : -9223372036854775808 ≤ d ∧ d ≤ 9223372036854775807) : d_law17_AdjustRevalues 80 a b d = some true := by
  obtain ⟨p, e1, p0, p1⟩ := place_e (n := 100) (by decide) ha
  obtain ⟨q, e2, q0, q1⟩ := place_e (n := 2 + p - 1) (by omega) hb
  obtain ⟨c, e3, c0, c1⟩ := place_e (n := 1000) (by decide) hc
  have g1 : 0 ≤ c * (1 + q) := Int.mul_nonneg c0 (by omega)
  have g2 : c * (1 + q) ≤ c * (2 + p) := Int.mul_le_mul_of_nonneg_left (by omega) c0
  have g3 : c * (2 + p) ≤ 101000 := by
    have h1 : c * (2 + p) ≤ c * 101 := Int.mul_le_mul_of_nonneg_left (by omega) c0
    omega
  have z1 : (2 + p) * c = c * (2 + p) := Int.mul_comm _ _
  have z2 : (0 - (2 + p)) * c = 0 - c * (2 + p) := by rw [Int.sub_mul, z1, Int.zero_mul]
  have z3 : (2 + p + 5) * c = c * (2 + p) + 5 * c := by rw [Int.add_mul, z1]
  have hS := st3_r (2 + p) (by omega) (by omega)
  have hM := mv3_r (2 + p) (1 + q) (by omega) (by omega) (by omega) (by omega)
  have hV := rv3_r (2 + p) (1 + q) c (by omega) (by omega) (by omega) (by omega) c0 c1 g1 g2 g3
  have hC := rc3_r (2 + p) (1 + q) c (by omega) (by omega) (by omega) (by omega) c0 c1 g1 g2 g3
  have hR : d_stock_Ready (F1 [⟨2 + p, 10 * (2 + p), 0⟩] [] 10 (10 * (2 + p)) (0 - 10 * (2 + p)) (10 * (2 + p)) 0 (2 + p)) 0 3 = some 0 := rfl
  have hR2 : d_stock_Ready (F1 [⟨2 + p - (1 + q), 10 * (2 + p) - 10 * (1 + q), 0⟩] [⟨1 + q, 10 * (1 + q), 0⟩] 10 (10 * (2 + p)) (0 - 10 * (2 + p)) (10 * (2 + p)) 0 (2 + p)) 0 3 = some 0 := rfl
  have hw := aw17
  exact auto17
end Go.Pv
