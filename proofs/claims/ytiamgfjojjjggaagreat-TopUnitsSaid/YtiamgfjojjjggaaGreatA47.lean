/- Plain laws: sums, layers. -/
import Derived.Test.YtiamgfjojjjggaaGreatB47
import Derived.Test.YtiamgfjojjjggaaGreatK47d
set_option linter.unusedSimpArgs false
set_option linter.unusedVariables false
namespace Go.Pv
open Go.Proofs
set_option maxRecDepth 100000
abbrev Sm (a : Int) : Prop := -288230376151711744 ≤ a ∧ a ≤ 288230376151711744
theorem in_v {a : Int} (h : Sm a) : d_money_in a = some true := by
  unfold d_money_in
  exact v_bi (v_T h.1 (v_cT (v_T h.2 rfl))) rfl
theorem add_v {a b : Int} (ha : Sm a) (hb : Sm b) (h : Sm (a + b)) : d_money_Add a b = some (a + b, 0) := by
  unfold d_money_Add
  refine v_bi (a := false) ?_ ?_
  · refine v_bi (in_v ha) (v_nT (v_cF (v_bi (in_v hb) (v_nT (v_cF (v_w (by omega) (v_bi (in_v h) (v_nT rfl))))))))
  · exact v_as rfl (v_w (by omega) rfl)
variable {n : Nat}
theorem sum2 {a b : Int} (ha : Sm a) (hb : Sm b) (h : Sm (a + b)) : d_money_Sum (n + 12) [a, b] = some (0 + a + b, 0) := by
  unfold d_money_Sum
  repeat (first
    | with_reducible exact v_end
    | ((with_reducible refine v_fin ?_); (exact rfl))
    | ((with_reducible refine v_w ?_ ?_); · first | omega | decide | (dsimp only; omega) | (simp; done) | (simp; omega))
    | ((with_reducible refine v_wu ?_ ?_); · first | omega | decide | (dsimp only; omega) | (simp; done) | (simp; omega))
    | ((with_reducible refine v_T ?_ ?_); · first | omega | decide | (dsimp only; omega) | (simp; done) | (simp; omega) | (exact of_decide_eq_true rfl))
    | ((with_reducible refine v_F ?_ ?_); · first | omega | decide | (dsimp only; omega) | (simp; done) | (simp; omega) | (exact of_decide_eq_true rfl))
    | with_reducible refine v_nT ?_
    | with_reducible refine v_nF ?_
    | with_reducible refine v_cT ?_
    | with_reducible refine v_cF ?_
    | ((with_reducible refine v_as ?_ ?_); · first | omega | decide | (dsimp only; omega) | (simp; done) | (simp; omega) | (exact of_decide_eq_true rfl))
    | ((with_reducible apply v_ix); (first | omega | decide | (simp; done) | (dsimp only [List.length_cons, List.length_nil]; omega)); (exact rfl))
    | with_reducible refine v_p2 ?_
    | with_reducible refine v_selb ?_
    | with_reducible refine v_sele ?_
    | with_reducible refine v_selrl ?_
    | with_reducible refine v_selrr ?_
    | ((with_reducible refine v_ifT ?_ ?_); · first | omega | decide | (dsimp only; omega))
    | ((with_reducible refine v_ifF ?_ ?_); · first | omega | decide | (dsimp only; omega))
    | with_reducible refine v_bi (add_v (by first | omega | decide | (dsimp only; omega) | (simp; omega)) (by first | omega | decide | (dsimp only; omega) | (simp; omega)) (by first | omega | decide | (dsimp only; omega) | (simp; omega))) ?_
    | with_reducible refine v_brk ?_
    | with_reducible refine v_esc ?_
    | dsimp only [List.nil_append, List.cons_append]
    | with_reducible apply v_bi
    | rw [d_money_Sum_L0]
    | with_reducible refine v_bnd ?_)
theorem wrong_v {q v p : Int} (hq : 1 ≤ q ∧ q ≤ 288230376151711744) (hv : 0 ≤ v ∧ v ≤ 288230376151711744) (hp : Sm p) : d_fifo_wrong ⟨q, v, p⟩ = some false := by
  unfold d_fifo_wrong
  repeat (first
    | with_reducible exact v_end
    | ((with_reducible refine v_fin ?_); (exact rfl))
    | ((with_reducible refine v_w ?_ ?_); · first | omega | decide | (dsimp only; omega) | (simp; done) | (simp; omega))
    | ((with_reducible refine v_wu ?_ ?_); · first | omega | decide | (dsimp only; omega) | (simp; done) | (simp; omega))
    | ((with_reducible refine v_T ?_ ?_); · first | omega | decide | (dsimp only; omega) | (simp; done) | (simp; omega) | (exact of_decide_eq_true rfl))
    | ((with_reducible refine v_F ?_ ?_); · first | omega | decide | (dsimp only; omega) | (simp; done) | (simp; omega) | (exact of_decide_eq_true rfl))
    | with_reducible refine v_nT ?_
    | with_reducible refine v_nF ?_
    | with_reducible refine v_cT ?_
    | with_reducible refine v_cF ?_
    | ((with_reducible refine v_as ?_ ?_); · first | omega | decide | (dsimp only; omega) | (simp; done) | (simp; omega) | (exact of_decide_eq_true rfl))
    | ((with_reducible apply v_ix); (first | omega | decide | (simp; done) | (dsimp only [List.length_cons, List.length_nil]; omega)); (exact rfl))
    | with_reducible refine v_p2 ?_
    | with_reducible refine v_selb ?_
    | with_reducible refine v_sele ?_
    | with_reducible refine v_selrl ?_
    | with_reducible refine v_selrr ?_
    | ((with_reducible refine v_ifT ?_ ?_); · first | omega | decide | (dsimp only; omega))
    | ((with_reducible refine v_ifF ?_ ?_); · first | omega | decide | (dsimp only; omega))
    | with_reducible refine v_brk ?_
    | with_reducible refine v_esc ?_
    | dsimp only [List.nil_append, List.cons_append]
    | with_reducible apply v_bi
    | with_reducible refine v_bnd ?_)
theorem wide_v {a b : Int} (ha : 0 ≤ a ∧ a < 2147483648) (hb : 0 ≤ b ∧ b < 2147483648) : d_money_Wide a b = some (0, a * b) := by
  have h1 : 0 ≤ a * b := Int.mul_nonneg ha.1 hb.1
  have h2 : a * b < 2147483648 * 2147483648 := by
    have h3 : a * b ≤ a * 2147483648 := Int.mul_le_mul_of_nonneg_left (by omega) ha.1
    omega
  have t1 : a.tmod 4294967296 = a := Int.tmod_eq_of_lt ha.1 (by omega)
  have t2 : b.tmod 4294967296 = b := Int.tmod_eq_of_lt hb.1 (by omega)
  have t3 : a.tdiv 4294967296 = 0 := Int.tdiv_eq_zero_of_lt ha.1 (by omega)
  have t4 : b.tdiv 4294967296 = 0 := Int.tdiv_eq_zero_of_lt hb.1 (by omega)
  have t5 : 0 ≤ (a * b).tdiv 4294967296 ∧ (a * b).tdiv 4294967296 < 2147483648 := by
    rw [Int.tdiv_eq_ediv_of_nonneg h1]; omega
  have t6 : ((a * b).tdiv 4294967296).tdiv 4294967296 = 0 := Int.tdiv_eq_zero_of_lt t5.1 (by omega)
  have wa : wu64 a = a := wrapu64 (by omega)
  have wb : wu64 b = b := wrapu64 (by omega)
  have wab : wu64 (a * b) = a * b := wrapu64 (by omega)
  have wd : wu64 ((a * b).tdiv 4294967296) = (a * b).tdiv 4294967296 := wrapu64 (by omega)
  have w0 : wu64 0 = 0 := by decide
  have z1 : (0 : Int).tmod 4294967296 = 0 := by decide
  have z2 : (0 : Int).tdiv 4294967296 = 0 := by decide
  simp only [d_money_Wide, bnd, wa, wb, t1, t2, t3, t4, wab, w0, Int.zero_mul, Int.mul_zero, z1, z2, wd, Int.add_zero, Int.zero_add, t6]
theorem div_v {a b : Int} (ha : 0 ≤ a ∧ a ≤ 9223372036854775807) (hb : 1 ≤ b ∧ b ≤ 9223372036854775807) : d_math_bits_Div64 (n + 12) 0 a b = some (a.tdiv b, a.tmod b) := by
  have h1 : 0 ≤ a.tdiv b ∧ a.tdiv b ≤ a := ⟨Int.tdiv_nonneg ha.1 (by omega), Int.tdiv_le_self _ ha.1⟩
  unfold d_math_bits_Div64
  repeat (first
    | with_reducible exact v_end
    | ((with_reducible refine v_fin ?_); (exact rfl))
    | ((with_reducible refine v_w ?_ ?_); · first | omega | decide | (dsimp only; omega) | (simp; done) | (simp; omega))
    | ((with_reducible refine v_wu ?_ ?_); · first | omega | decide | (dsimp only; omega) | (simp; done) | (simp; omega))
    | ((with_reducible refine v_T ?_ ?_); · first | omega | decide | (dsimp only; omega) | (simp; done) | (simp; omega) | (exact of_decide_eq_true rfl))
    | ((with_reducible refine v_F ?_ ?_); · first | omega | decide | (dsimp only; omega) | (simp; done) | (simp; omega) | (exact of_decide_eq_true rfl))
    | with_reducible refine v_nT ?_
    | with_reducible refine v_nF ?_
    | with_reducible refine v_cT ?_
    | with_reducible refine v_cF ?_
    | ((with_reducible refine v_as ?_ ?_); · first | omega | decide | (dsimp only; omega) | (simp; done) | (simp; omega) | (exact of_decide_eq_true rfl))
    | ((with_reducible apply v_ix); (first | omega | decide | (simp; done) | (dsimp only [List.length_cons, List.length_nil]; omega)); (exact rfl))
    | with_reducible refine v_p2 ?_
    | with_reducible refine v_selb ?_
    | with_reducible refine v_sele ?_
    | with_reducible refine v_selrl ?_
    | with_reducible refine v_selrr ?_
    | ((with_reducible refine v_ifT ?_ ?_); · first | omega | decide | (dsimp only; omega))
    | ((with_reducible refine v_ifF ?_ ?_); · first | omega | decide | (dsimp only; omega))
    | with_reducible refine v_brk ?_
    | with_reducible refine v_esc ?_
    | dsimp only [List.nil_append, List.cons_append]
    | with_reducible apply v_bi
    | with_reducible refine v_bnd ?_)
theorem muldiv_v {a b c : Int} (ha : 0 ≤ a ∧ a < 2147483648) (hb : 0 ≤ b ∧ b < 134217728) (hc : 1 ≤ c ∧ c ≤ 9223372036854775807) : d_money_MulDiv (n + 12) a b c = some ((a * b).tdiv c, (a * b).tmod c, 0) := by
  have h1 : 0 ≤ a * b := Int.mul_nonneg ha.1 hb.1
  have h2 : a * b < 2147483648 * 134217728 := by
    have h3 : a * b ≤ a * 134217728 := Int.mul_le_mul_of_nonneg_left (by omega) ha.1
    omega
  have h3 : 0 ≤ (a * b).tdiv c ∧ (a * b).tdiv c ≤ a * b := ⟨Int.tdiv_nonneg h1 (by omega), Int.tdiv_le_self _ h1⟩
  have h4 : 0 ≤ (a * b).tmod c ∧ (a * b).tmod c < c := ⟨Int.tmod_nonneg _ h1, Int.tmod_lt_of_pos _ (by omega)⟩
  unfold d_money_MulDiv
  repeat (first
    | with_reducible exact v_end
    | ((with_reducible refine v_fin ?_); (exact rfl))
    | ((with_reducible refine v_w ?_ ?_); · first | omega | decide | (dsimp only; omega) | (simp; done) | (simp; omega))
    | ((with_reducible refine v_wu ?_ ?_); · first | omega | decide | (dsimp only; omega) | (simp; done) | (simp; omega))
    | ((with_reducible refine v_T ?_ ?_); · first | omega | decide | (dsimp only; omega) | (simp; done) | (simp; omega) | (exact of_decide_eq_true rfl))
    | ((with_reducible refine v_F ?_ ?_); · first | omega | decide | (dsimp only; omega) | (simp; done) | (simp; omega) | (exact of_decide_eq_true rfl))
    | with_reducible refine v_nT ?_
    | with_reducible refine v_nF ?_
    | with_reducible refine v_cT ?_
    | with_reducible refine v_cF ?_
    | ((with_reducible refine v_as ?_ ?_); · first | omega | decide | (dsimp only; omega) | (simp; done) | (simp; omega) | (exact of_decide_eq_true rfl))
    | ((with_reducible apply v_ix); (first | omega | decide | (simp; done) | (dsimp only [List.length_cons, List.length_nil]; omega)); (exact rfl))
    | with_reducible refine v_p2 ?_
    | with_reducible refine v_selb ?_
    | with_reducible refine v_sele ?_
    | with_reducible refine v_selrl ?_
    | with_reducible refine v_selrr ?_
    | ((with_reducible refine v_ifT ?_ ?_); · first | omega | decide | (dsimp only; omega))
    | ((with_reducible refine v_ifF ?_ ?_); · first | omega | decide | (dsimp only; omega))
    | with_reducible refine v_bi (wide_v ha (by omega)) ?_
    | with_reducible refine v_bi (div_v (by omega) (by omega)) ?_
    | with_reducible refine v_brk ?_
    | with_reducible refine v_esc ?_
    | dsimp only [List.nil_append, List.cons_append]
    | with_reducible apply v_bi
    | with_reducible refine v_bnd ?_)
end Go.Pv
