/- A product cut. -/
import Derived.Test.YtkinibckmebacaaGreatQ42
import Derived.Test.YtkinibckmebacaaGreatPlV
set_option linter.unusedSimpArgs false
set_option linter.unusedVariables false
namespace Go.Pv
open Go.Proofs
set_option maxRecDepth 100000
set_option maxHeartbeats 4000000
variable {n : Nat}
theorem wide_v {a b : Int} (ha : 0 ≤ a ∧ a < 2147483648) (hb : 0 ≤ b ∧ b < 2147483648) : d_money_Wide a b = some (0, a * b) := by
  have h1 : 0 ≤ a * b := Int.mul_nonneg ha.1 hb.1
  have h2 : a * b < 2147483648 * 2147483648 := by
    have h3 : a * b ≤ a * 2147483648 := Int.mul_le_mul_of_nonneg_left (by omega) ha.1
    omega
  have t1 : a.tmod 4294967296 = a := Int.tmod_eq_of_lt ha.1 (by omega)
  have t2 : b.tmod 4294967296 = b := Int.tmod_eq_of_lt hb.1 (by omega)
  have t3 : a.tdiv 4294967296 = 0 := Int.tdiv_eq_zero_of_lt ha.1 (by omega)
  have t4 : b.tdiv 4294967296 = 0 := Int.tdiv_eq_zero_of_lt hb.1 (by omega)
  have t5 : 0 ≤ (a * b).tdiv 4294967296 ∧ (a * b).tdiv 4294967296 < 2147483648 := by
    rw [Int.tdiv_eq_ediv_of_nonneg h1]; omega
  have t6 : ((a * b).tdiv 4294967296).tdiv 4294967296 = 0 := Int.tdiv_eq_zero_of_lt t5.1 (by omega)
  have wa : wu64 a = a := wrapu64 (by omega)
  have wb : wu64 b = b := wrapu64 (by omega)
  have wab : wu64 (a * b) = a * b := wrapu64 (by omega)
  have wd : wu64 ((a * b).tdiv 4294967296) = (a * b).tdiv 4294967296 := wrapu64 (by omega)
  have w0 : wu64 0 = 0 := by decide
  have z1 : (0 : Int).tmod 4294967296 = 0 := by decide
  have z2 : (0 : Int).tdiv 4294967296 = 0 := by decide
  simp only [d_money_Wide, bnd, wa, wb, t1, t2, t3, t4, wab, w0, Int.zero_mul, Int.mul_zero, z1, z2, wd, Int.add_zero, Int.zero_add, t6]
theorem div_v {a b : Int} (ha : 0 ≤ a ∧ a ≤ 9223372036854775807) (hb : 1 ≤ b ∧ b ≤ 9223372036854775807) : d_math_bits_Div64 (n + 12) 0 a b = some (a.tdiv b, a.tmod b) := by
  have h1 : 0 ≤ a.tdiv b ∧ a.tdiv b ≤ a := ⟨Int.tdiv_nonneg ha.1 (by omega), Int.tdiv_le_self _ ha.1⟩
  unfold d_math_bits_Div64
  repeat (first
    | with_reducible exact v_end
    | ((with_reducible refine v_fin ?_); (exact rfl))
    | ((with_reducible refine v_w ?_ ?_); · first | omega | decide | (dsimp only; omega) | (simp; done) | (simp; omega))
    | ((with_reducible refine v_wu ?_ ?_); · first | omega | decide | (dsimp only; omega) | (simp; done) | (simp; omega))
    | ((with_reducible refine v_T ?_ ?_); · first | omega | decide | (dsimp only; omega) | (simp; done) | (simp; omega) | (exact of_decide_eq_true rfl))
    | ((with_reducible refine v_F ?_ ?_); · first | omega | decide | (dsimp only; omega) | (simp; done) | (simp; omega) | (exact of_decide_eq_true rfl))
    | with_reducible refine v_nT ?_
    | with_reducible refine v_nF ?_
    | with_reducible refine v_cT ?_
    | with_reducible refine v_cF ?_
    | ((with_reducible refine v_as ?_ ?_); · first | omega | decide | (dsimp only; omega) | (simp; done) | (simp; omega) | (exact of_decide_eq_true rfl))
    | ((with_reducible apply v_ix); (first | omega | decide | (simp; done) | (dsimp only [List.length_cons, List.length_nil]; omega)); (exact rfl))
    | with_reducible refine v_p2 ?_
    | with_reducible refine v_selb ?_
    | with_reducible refine v_sele ?_
    | with_reducible refine v_selrl ?_
    | with_reducible refine v_selrr ?_
    | ((with_reducible refine v_ifT ?_ ?_); · first | omega | decide | (dsimp only; omega))
    | ((with_reducible refine v_ifF ?_ ?_); · first | omega | decide | (dsimp only; omega))
    | with_reducible refine v_brk ?_
    | with_reducible refine v_esc ?_
    | dsimp only [List.nil_append, List.cons_append]
    | with_reducible apply v_bi
    | with_reducible refine v_bnd ?_)
theorem muldiv_v {a b c : Int} (ha : 0 ≤ a ∧ a < 2147483648) (hb : 0 ≤ b ∧ b < 134217728) (hc : 1 ≤ c ∧ c ≤ 9223372036854775807) : d_money_MulDiv (n + 12) a b c = some ((a * b).tdiv c, (a * b).tmod c, 0) := by
  have h1 : 0 ≤ a * b := Int.mul_nonneg ha.1 hb.1
  have h2 : a * b < 2147483648 * 134217728 := by
    have h3 : a * b ≤ a * 134217728 := Int.mul_le_mul_of_nonneg_left (by omega) ha.1
    omega
  have h3 : 0 ≤ (a * b).tdiv c ∧ (a * b).tdiv c ≤ a * b := ⟨Int.tdiv_nonneg h1 (by omega), Int.tdiv_le_self _ h1⟩
  have h4 : 0 ≤ (a * b).tmod c ∧ (a * b).tmod c < c := ⟨Int.tmod_nonneg _ h1, Int.tmod_lt_of_pos _ (by omega)⟩
  unfold d_money_MulDiv
  repeat (first
    | with_reducible exact v_end
    | ((with_reducible refine v_fin ?_); (exact rfl))
    | ((with_reducible refine v_w ?_ ?_); · first | omega | decide | (dsimp only; omega) | (simp; done) | (simp; omega))
    | ((with_reducible refine v_wu ?_ ?_); · first | omega | decide | (dsimp only; omega) | (simp; done) | (simp; omega))
    | ((with_reducible refine v_T ?_ ?_); · first | omega | decide | (dsimp only; omega) | (simp; done) | (simp; omega) | (exact of_decide_eq_true rfl))
    | ((with_reducible refine v_F ?_ ?_); · first | omega | decide | (dsimp only; omega) | (simp; done) | (simp; omega) | (exact of_decide_eq_true rfl))
    | with_reducible refine v_nT ?_
    | with_reducible refine v_nF ?_
    | with_reducible refine v_cT ?_
    | with_reducible refine v_cF ?_
    | ((with_reducible refine v_as ?_ ?_); · first | omega | decide | (dsimp only; omega) | (simp; done) | (simp; omega) | (exact of_decide_eq_true rfl))
    | ((with_reducible apply v_ix); (first | omega | decide | (simp; done) | (dsimp only [List.length_cons, List.length_nil]; omega)); (exact rfl))
    | with_reducible refine v_p2 ?_
    | with_reducible refine v_selb ?_
    | with_reducible refine v_sele ?_
    | with_reducible refine v_selrl ?_
    | with_reducible refine v_selrr ?_
    | ((with_reducible refine v_ifT ?_ ?_); · first | omega | decide | (dsimp only; omega))
    | ((with_reducible refine v_ifF ?_ ?_); · first | omega | decide | (dsimp only; omega))
    | with_reducible refine v_bi (wide_v ha (by omega)) ?_
    | with_reducible refine v_bi (div_v (by omega) (by omega)) ?_
    | with_reducible refine v_brk ?_
    | with_reducible refine v_esc ?_
    | dsimp only [List.nil_append, List.cons_append]
    | with_reducible apply v_bi
    | with_reducible refine v_bnd ?_)
theorem md {a b c q r : Int} (ha : 0 ≤ a ∧ a < 2147483648) (hb : 0 ≤ b ∧ b < 134217728) (hc : 1 ≤ c ∧ c ≤ 9223372036854775807) (h : a * b = q * c + r) (hr : 0 ≤ r ∧ r < c) : d_money_MulDiv (n + 12) a b c = some (q, r, 0) := by
  have h1 : 0 ≤ a * b := Int.mul_nonneg ha.1 hb.1
  have h2 : (a * b) / c = q := by
    rw [h, Int.add_comm, Int.add_mul_ediv_right _ _ (by omega), Int.ediv_eq_zero_of_lt hr.1 hr.2]; omega
  have h3 : (a * b) % c = r := by
    rw [h, Int.add_comm, Int.add_mul_emod_self_right, Int.emod_eq_of_lt hr.1 hr.2]
  rw [muldiv_v ha hb hc, Int.tdiv_eq_ediv_of_nonneg h1, Int.tmod_eq_emod_of_nonneg h1, h2, h3]
theorem md3 {a b c N : Int} (ha : 0 ≤ a ∧ a < 2147483648) (hb : 0 ≤ b ∧ b < 134217728) (hc : 1 ≤ c ∧ c ≤ 9223372036854775807) (h : a * b = N) : d_money_MulDiv (n + 12) a b c = some (N / c, N % c, 0) := by
  have h1 : 0 ≤ a * b := Int.mul_nonneg ha.1 hb.1
  rw [muldiv_v ha hb hc, Int.tdiv_eq_ediv_of_nonneg h1, Int.tmod_eq_emod_of_nonneg h1, h]
theorem place_e {a n : Int} (hn : 1 ≤ n ∧ n ≤ 1099511627776) (ha : -9223372036854775808 ≤ a ∧ a ≤ 9223372036854775807) : ∃ p, d_law00_Place a n = some p ∧ 0 ≤ p ∧ p < n := by
  have h1 := Int.tmod_lt_of_pos a (show 0 < n by omega)
  have h2 := Int.lt_tmod_of_pos a (show 0 < n by omega)
  unfold d_law00_Place asrt
  rw [if_pos (by omega)]
  by_cases h : Int.tmod a n < 0
  · refine ⟨Int.tmod a n + n, ?_, by omega, by omega⟩
    show (cond (decide (Int.tmod a n < 0)) (some (w64 (Int.tmod a n + n))) (some (Int.tmod a n))).bind _ = _
    rw [decide_eq_true h, show w64 (Int.tmod a n + n) = Int.tmod a n + n from wrap64 (by omega)]; rfl
  · refine ⟨Int.tmod a n, ?_, by omega, by omega⟩
    show (cond (decide (Int.tmod a n < 0)) (some (w64 (Int.tmod a n + n))) (some (Int.tmod a n))).bind _ = _
    rw [decide_eq_false h]; rfl
theorem T.lenA {α : Type} {l : List α} {x : α} {k : Nat} (h : l.length + 1 ≤ k) : (l ++ [x]).length ≤ k := by rw [List.length_append]; exact h
theorem T.lenS {α : Type} {l : List α} {i : Nat} {x : α} {e : Int} (h : e < (l.length : Int)) : ¬ e ≥ ((l.set i x).length : Int) := by rw [List.length_set]; omega
theorem T.okS {A : Type} {tab : List (T.E A)} (h : T.AllE tab := by repeat (first | exact T.okN | refine T.okC (by first | exact T.okT (by omega) | exact T.okF (by omega) | exact T.okW (by omega) | exact T.okF (by rw [A3_Int.mk.injEq]; omega) | exact T.okT rfl | exact T.okW ⟨by grind, by omega, by omega⟩ | exact T.okW (by rw [Int.tdiv_eq_ediv_of_nonneg (by omega)]; omega) | exact T.okO (by with_reducible assumption) | exact T.okO (md (by omega) (by omega) (by omega) (by first | omega | (simp only [Int.add_zero]; ac_rfl) | grind) (by omega)) | exact T.okO (rmd (by omega) (by omega) (by omega) (by first | omega | (simp only [Int.add_zero]; ac_rfl) | grind) (by omega) (by omega)) | exact T.okO (md3 (by omega) (by omega) (by omega) (by grind)) | exact T.okT (T.lenA (by omega)) | exact T.okF (T.lenS (by omega)) | exact T.okT (by congr 1 <;> omega) | exact T.okT (by simp; done) | exact T.okF (by simp; done) | exact T.okF (by simp; omega) | exact T.okWn rfl (by first | omega | grind) (by omega) ⟨by omega, by omega⟩) ?_)) : T.AllE tab := h
end Go.Pv
