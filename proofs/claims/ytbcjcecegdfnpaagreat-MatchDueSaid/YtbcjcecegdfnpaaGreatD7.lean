/- Knuth's digits. -/
import Derived.Test.YtbcjcecegdfnpaaGreatD6
set_option linter.unusedSimpArgs false
set_option linter.unusedVariables false
namespace Go.Pv
open Go.Proofs
set_option maxRecDepth 100000
set_option maxHeartbeats 1000000
theorem dL0 {u y y1 y0 d : Int} {n : Nat} (hy : y = y1 * 4294967296 + y0) (h0 : 0 ≤ y0 ∧ y0 < 4294967296) (h1 : 2147483648 ≤ y1 ∧ y1 < 4294967296) (hu : 0 ≤ u ∧ u < y) (hd : 0 ≤ d ∧ d < 4294967296) :
    ∀ (k : Nat) (q r : Int), u = q * y1 + r → (u * 4294967296 + d) / y ≤ q → 0 ≤ r → r < 4294967296 → 4294967296 ≤ r + (k : Int) * 2147483648 → q ≤ 18446744073709551615 → d_math_bits_Div64_L0 y1 y0 d (n + k) q r = some ((u * 4294967296 + d) / y)
  | 0, q, r, _, _, _, hr, hk, _ => by omega
  | k + 1, q, r, e, hq, hr0, hr, hk, hqm => by
    have hQ : 0 ≤ (u * 4294967296 + d) / y := Int.ediv_nonneg (by omega) (by omega)
    show d_math_bits_Div64_L0 y1 y0 d (n + k + 1) q r = _
    rw [d_math_bits_Div64_L0]
    by_cases c1 : q ≥ 4294967296
    · have hq2 := knuth_hi hy h0 h1 hu hd e hq (.inl c1)
      by_cases c3 : r + y1 ≥ 4294967296
      · have hf := knuth_lo (q := q - 1) (r := r + y1) hy h0 h1 hu hd (by rw [e, Int.sub_mul]; omega) hq2 (.inr c3)
        rw [← hf]
        repeat (first
          | with_reducible exact v_end
          | ((with_reducible refine v_fin ?_); (exact rfl))
          | ((with_reducible refine v_w ?_ ?_); · first | omega | decide | (dsimp only; omega) | (simp; done) | (simp; omega))
          | ((with_reducible refine v_wu ?_ ?_); · first | omega | decide | (dsimp only; omega) | (simp; done) | (simp; omega))
          | ((with_reducible refine v_T ?_ ?_); · first | omega | decide | (dsimp only; omega) | (simp; done) | (simp; omega) | (exact of_decide_eq_true rfl))
          | ((with_reducible refine v_F ?_ ?_); · first | omega | decide | (dsimp only; omega) | (simp; done) | (simp; omega) | (exact of_decide_eq_true rfl))
          | with_reducible refine v_nT ?_
          | with_reducible refine v_nF ?_
          | with_reducible refine v_cT ?_
          | with_reducible refine v_cF ?_
          | ((with_reducible refine v_as ?_ ?_); · first | omega | decide | (dsimp only; omega) | (simp; done) | (simp; omega) | (exact of_decide_eq_true rfl))
          | ((with_reducible apply v_ix); (first | omega | decide | (simp; done) | (dsimp only [List.length_cons, List.length_nil]; omega)); (exact rfl))
          | with_reducible refine v_p2 ?_
          | with_reducible refine v_selb ?_
          | with_reducible refine v_sele ?_
          | with_reducible refine v_selrl ?_
          | with_reducible refine v_selrr ?_
          | ((with_reducible refine v_ifT ?_ ?_); · first | omega | decide | (dsimp only; omega))
          | ((with_reducible refine v_ifF ?_ ?_); · first | omega | decide | (dsimp only; omega))
          | with_reducible refine v_brk ?_
          | with_reducible refine v_esc ?_
          | dsimp only [List.nil_append, List.cons_append]
          | with_reducible apply v_bi
          | with_reducible refine v_bnd ?_)
      · have ih := dL0 hy h0 h1 hu hd k (q - 1) (r + y1) (by rw [e, Int.sub_mul]; omega) hq2 (by omega) (by omega) (by omega) (by omega) (n := n)
        repeat (first
          | with_reducible exact v_end
          | ((with_reducible refine v_fin ?_); (exact rfl))
          | ((with_reducible refine v_w ?_ ?_); · first | omega | decide | (dsimp only; omega) | (simp; done) | (simp; omega))
          | ((with_reducible refine v_wu ?_ ?_); · first | omega | decide | (dsimp only; omega) | (simp; done) | (simp; omega))
          | ((with_reducible refine v_T ?_ ?_); · first | omega | decide | (dsimp only; omega) | (simp; done) | (simp; omega) | (exact of_decide_eq_true rfl))
          | ((with_reducible refine v_F ?_ ?_); · first | omega | decide | (dsimp only; omega) | (simp; done) | (simp; omega) | (exact of_decide_eq_true rfl))
          | with_reducible refine v_nT ?_
          | with_reducible refine v_nF ?_
          | with_reducible refine v_cT ?_
          | with_reducible refine v_cF ?_
          | ((with_reducible refine v_as ?_ ?_); · first | omega | decide | (dsimp only; omega) | (simp; done) | (simp; omega) | (exact of_decide_eq_true rfl))
          | ((with_reducible apply v_ix); (first | omega | decide | (simp; done) | (dsimp only [List.length_cons, List.length_nil]; omega)); (exact rfl))
          | with_reducible refine v_p2 ?_
          | with_reducible refine v_selb ?_
          | with_reducible refine v_sele ?_
          | with_reducible refine v_selrl ?_
          | with_reducible refine v_selrr ?_
          | ((with_reducible refine v_ifT ?_ ?_); · first | omega | decide | (dsimp only; omega))
          | ((with_reducible refine v_ifF ?_ ?_); · first | omega | decide | (dsimp only; omega))
          | with_reducible refine v_brk ?_
          | with_reducible refine v_esc ?_
          | dsimp only [List.nil_append, List.cons_append]
          | exact ih
          | with_reducible apply v_bi
          | with_reducible refine v_bnd ?_)
    · have b1 := mulB (X := 4294967295) (Y := 4294967295) (x := q) (y := y0) ⟨by omega, by omega⟩ ⟨h0.1, by omega⟩
      by_cases c2 : q * y0 > 4294967296 * r + d
      · have hq2 := knuth_hi hy h0 h1 hu hd e hq (.inr c2)
        by_cases c3 : r + y1 ≥ 4294967296
        · have hf := knuth_lo (q := q - 1) (r := r + y1) hy h0 h1 hu hd (by rw [e, Int.sub_mul]; omega) hq2 (.inr c3)
          rw [← hf]
          repeat (first
            | with_reducible exact v_end
            | ((with_reducible refine v_fin ?_); (exact rfl))
            | ((with_reducible refine v_w ?_ ?_); · first | omega | decide | (dsimp only; omega) | (simp; done) | (simp; omega))
            | ((with_reducible refine v_wu ?_ ?_); · first | omega | decide | (dsimp only; omega) | (simp; done) | (simp; omega))
            | ((with_reducible refine v_T ?_ ?_); · first | omega | decide | (dsimp only; omega) | (simp; done) | (simp; omega) | (exact of_decide_eq_true rfl))
            | ((with_reducible refine v_F ?_ ?_); · first | omega | decide | (dsimp only; omega) | (simp; done) | (simp; omega) | (exact of_decide_eq_true rfl))
            | with_reducible refine v_nT ?_
            | with_reducible refine v_nF ?_
            | with_reducible refine v_cT ?_
            | with_reducible refine v_cF ?_
            | ((with_reducible refine v_as ?_ ?_); · first | omega | decide | (dsimp only; omega) | (simp; done) | (simp; omega) | (exact of_decide_eq_true rfl))
            | ((with_reducible apply v_ix); (first | omega | decide | (simp; done) | (dsimp only [List.length_cons, List.length_nil]; omega)); (exact rfl))
            | with_reducible refine v_p2 ?_
            | with_reducible refine v_selb ?_
            | with_reducible refine v_sele ?_
            | with_reducible refine v_selrl ?_
            | with_reducible refine v_selrr ?_
            | ((with_reducible refine v_ifT ?_ ?_); · first | omega | decide | (dsimp only; omega))
            | ((with_reducible refine v_ifF ?_ ?_); · first | omega | decide | (dsimp only; omega))
            | with_reducible refine v_brk ?_
            | with_reducible refine v_esc ?_
            | dsimp only [List.nil_append, List.cons_append]
            | with_reducible apply v_bi
            | with_reducible refine v_bnd ?_)
        · have ih := dL0 hy h0 h1 hu hd k (q - 1) (r + y1) (by rw [e, Int.sub_mul]; omega) hq2 (by omega) (by omega) (by omega) (by omega) (n := n)
          repeat (first
            | with_reducible exact v_end
            | ((with_reducible refine v_fin ?_); (exact rfl))
            | ((with_reducible refine v_w ?_ ?_); · first | omega | decide | (dsimp only; omega) | (simp; done) | (simp; omega))
            | ((with_reducible refine v_wu ?_ ?_); · first | omega | decide | (dsimp only; omega) | (simp; done) | (simp; omega))
            | ((with_reducible refine v_T ?_ ?_); · first | omega | decide | (dsimp only; omega) | (simp; done) | (simp; omega) | (exact of_decide_eq_true rfl))
            | ((with_reducible refine v_F ?_ ?_); · first | omega | decide | (dsimp only; omega) | (simp; done) | (simp; omega) | (exact of_decide_eq_true rfl))
            | with_reducible refine v_nT ?_
            | with_reducible refine v_nF ?_
            | with_reducible refine v_cT ?_
            | with_reducible refine v_cF ?_
            | ((with_reducible refine v_as ?_ ?_); · first | omega | decide | (dsimp only; omega) | (simp; done) | (simp; omega) | (exact of_decide_eq_true rfl))
            | ((with_reducible apply v_ix); (first | omega | decide | (simp; done) | (dsimp only [List.length_cons, List.length_nil]; omega)); (exact rfl))
            | with_reducible refine v_p2 ?_
            | with_reducible refine v_selb ?_
            | with_reducible refine v_sele ?_
            | with_reducible refine v_selrl ?_
            | with_reducible refine v_selrr ?_
            | ((with_reducible refine v_ifT ?_ ?_); · first | omega | decide | (dsimp only; omega))
            | ((with_reducible refine v_ifF ?_ ?_); · first | omega | decide | (dsimp only; omega))
            | with_reducible refine v_brk ?_
            | with_reducible refine v_esc ?_
            | dsimp only [List.nil_append, List.cons_append]
            | exact ih
            | with_reducible apply v_bi
            | with_reducible refine v_bnd ?_)
      · have hf := knuth_lo (q := q) (r := r) hy h0 h1 hu hd e hq (.inl ⟨by omega, by omega⟩)
        rw [← hf]
        repeat (first
          | with_reducible exact v_end
          | ((with_reducible refine v_fin ?_); (exact rfl))
          | ((with_reducible refine v_w ?_ ?_); · first | omega | decide | (dsimp only; omega) | (simp; done) | (simp; omega))
          | ((with_reducible refine v_wu ?_ ?_); · first | omega | decide | (dsimp only; omega) | (simp; done) | (simp; omega))
          | ((with_reducible refine v_T ?_ ?_); · first | omega | decide | (dsimp only; omega) | (simp; done) | (simp; omega) | (exact of_decide_eq_true rfl))
          | ((with_reducible refine v_F ?_ ?_); · first | omega | decide | (dsimp only; omega) | (simp; done) | (simp; omega) | (exact of_decide_eq_true rfl))
          | with_reducible refine v_nT ?_
          | with_reducible refine v_nF ?_
          | with_reducible refine v_cT ?_
          | with_reducible refine v_cF ?_
          | ((with_reducible refine v_as ?_ ?_); · first | omega | decide | (dsimp only; omega) | (simp; done) | (simp; omega) | (exact of_decide_eq_true rfl))
          | ((with_reducible apply v_ix); (first | omega | decide | (simp; done) | (dsimp only [List.length_cons, List.length_nil]; omega)); (exact rfl))
          | with_reducible refine v_p2 ?_
          | with_reducible refine v_selb ?_
          | with_reducible refine v_sele ?_
          | with_reducible refine v_selrl ?_
          | with_reducible refine v_selrr ?_
          | ((with_reducible refine v_ifT ?_ ?_); · first | omega | decide | (dsimp only; omega))
          | ((with_reducible refine v_ifF ?_ ?_); · first | omega | decide | (dsimp only; omega))
          | with_reducible refine v_brk ?_
          | with_reducible refine v_esc ?_
          | dsimp only [List.nil_append, List.cons_append]
          | with_reducible apply v_bi
          | with_reducible refine v_bnd ?_)
theorem dL1 {u y y1 y0 d : Int} {n : Nat} (hy : y = y1 * 4294967296 + y0) (h0 : 0 ≤ y0 ∧ y0 < 4294967296) (h1 : 2147483648 ≤ y1 ∧ y1 < 4294967296) (hu : 0 ≤ u ∧ u < y) (hd : 0 ≤ d ∧ d < 4294967296) :
    ∀ (k : Nat) (q r : Int), u = q * y1 + r → (u * 4294967296 + d) / y ≤ q → 0 ≤ r → r < 4294967296 → 4294967296 ≤ r + (k : Int) * 2147483648 → q ≤ 18446744073709551615 → d_math_bits_Div64_L1 y1 y0 d (n + k) r q = some ((u * 4294967296 + d) / y)
  | 0, q, r, _, _, _, hr, hk, _ => by omega
  | k + 1, q, r, e, hq, hr0, hr, hk, hqm => by
    have hQ : 0 ≤ (u * 4294967296 + d) / y := Int.ediv_nonneg (by omega) (by omega)
    show d_math_bits_Div64_L1 y1 y0 d (n + k + 1) r q = _
    rw [d_math_bits_Div64_L1]
    by_cases c1 : q ≥ 4294967296
    · have hq2 := knuth_hi hy h0 h1 hu hd e hq (.inl c1)
      by_cases c3 : r + y1 ≥ 4294967296
      · have hf := knuth_lo (q := q - 1) (r := r + y1) hy h0 h1 hu hd (by rw [e, Int.sub_mul]; omega) hq2 (.inr c3)
        rw [← hf]
        repeat (first
          | with_reducible exact v_end
          | ((with_reducible refine v_fin ?_); (exact rfl))
          | ((with_reducible refine v_w ?_ ?_); · first | omega | decide | (dsimp only; omega) | (simp; done) | (simp; omega))
          | ((with_reducible refine v_wu ?_ ?_); · first | omega | decide | (dsimp only; omega) | (simp; done) | (simp; omega))
          | ((with_reducible refine v_T ?_ ?_); · first | omega | decide | (dsimp only; omega) | (simp; done) | (simp; omega) | (exact of_decide_eq_true rfl))
          | ((with_reducible refine v_F ?_ ?_); · first | omega | decide | (dsimp only; omega) | (simp; done) | (simp; omega) | (exact of_decide_eq_true rfl))
          | with_reducible refine v_nT ?_
          | with_reducible refine v_nF ?_
          | with_reducible refine v_cT ?_
          | with_reducible refine v_cF ?_
          | ((with_reducible refine v_as ?_ ?_); · first | omega | decide | (dsimp only; omega) | (simp; done) | (simp; omega) | (exact of_decide_eq_true rfl))
          | ((with_reducible apply v_ix); (first | omega | decide | (simp; done) | (dsimp only [List.length_cons, List.length_nil]; omega)); (exact rfl))
          | with_reducible refine v_p2 ?_
          | with_reducible refine v_selb ?_
          | with_reducible refine v_sele ?_
          | with_reducible refine v_selrl ?_
          | with_reducible refine v_selrr ?_
          | ((with_reducible refine v_ifT ?_ ?_); · first | omega | decide | (dsimp only; omega))
          | ((with_reducible refine v_ifF ?_ ?_); · first | omega | decide | (dsimp only; omega))
          | with_reducible refine v_brk ?_
          | with_reducible refine v_esc ?_
          | dsimp only [List.nil_append, List.cons_append]
          | with_reducible apply v_bi
          | with_reducible refine v_bnd ?_)
      · have ih := dL1 hy h0 h1 hu hd k (q - 1) (r + y1) (by rw [e, Int.sub_mul]; omega) hq2 (by omega) (by omega) (by omega) (by omega) (n := n)
        repeat (first
          | with_reducible exact v_end
          | ((with_reducible refine v_fin ?_); (exact rfl))
          | ((with_reducible refine v_w ?_ ?_); · first | omega | decide | (dsimp only; omega) | (simp; done) | (simp; omega))
          | ((with_reducible refine v_wu ?_ ?_); · first | omega | decide | (dsimp only; omega) | (simp; done) | (simp; omega))
          | ((with_reducible refine v_T ?_ ?_); · first | omega | decide | (dsimp only; omega) | (simp; done) | (simp; omega) | (exact of_decide_eq_true rfl))
          | ((with_reducible refine v_F ?_ ?_); · first | omega | decide | (dsimp only; omega) | (simp; done) | (simp; omega) | (exact of_decide_eq_true rfl))
          | with_reducible refine v_nT ?_
          | with_reducible refine v_nF ?_
          | with_reducible refine v_cT ?_
          | with_reducible refine v_cF ?_
          | ((with_reducible refine v_as ?_ ?_); · first | omega | decide | (dsimp only; omega) | (simp; done) | (simp; omega) | (exact of_decide_eq_true rfl))
          | ((with_reducible apply v_ix); (first | omega | decide | (simp; done) | (dsimp only [List.length_cons, List.length_nil]; omega)); (exact rfl))
          | with_reducible refine v_p2 ?_
          | with_reducible refine v_selb ?_
          | with_reducible refine v_sele ?_
          | with_reducible refine v_selrl ?_
          | with_reducible refine v_selrr ?_
          | ((with_reducible refine v_ifT ?_ ?_); · first | omega | decide | (dsimp only; omega))
          | ((with_reducible refine v_ifF ?_ ?_); · first | omega | decide | (dsimp only; omega))
          | with_reducible refine v_brk ?_
          | with_reducible refine v_esc ?_
          | dsimp only [List.nil_append, List.cons_append]
          | exact ih
          | with_reducible apply v_bi
          | with_reducible refine v_bnd ?_)
    · have b1 := mulB (X := 4294967295) (Y := 4294967295) (x := q) (y := y0) ⟨by omega, by omega⟩ ⟨h0.1, by omega⟩
      by_cases c2 : q * y0 > 4294967296 * r + d
      · have hq2 := knuth_hi hy h0 h1 hu hd e hq (.inr c2)
        by_cases c3 : r + y1 ≥ 4294967296
        · have hf := knuth_lo (q := q - 1) (r := r + y1) hy h0 h1 hu hd (by rw [e, Int.sub_mul]; omega) hq2 (.inr c3)
          rw [← hf]
          repeat (first
            | with_reducible exact v_end
            | ((with_reducible refine v_fin ?_); (exact rfl))
            | ((with_reducible refine v_w ?_ ?_); · first | omega | decide | (dsimp only; omega) | (simp; done) | (simp; omega))
            | ((with_reducible refine v_wu ?_ ?_); · first | omega | decide | (dsimp only; omega) | (simp; done) | (simp; omega))
            | ((with_reducible refine v_T ?_ ?_); · first | omega | decide | (dsimp only; omega) | (simp; done) | (simp; omega) | (exact of_decide_eq_true rfl))
            | ((with_reducible refine v_F ?_ ?_); · first | omega | decide | (dsimp only; omega) | (simp; done) | (simp; omega) | (exact of_decide_eq_true rfl))
            | with_reducible refine v_nT ?_
            | with_reducible refine v_nF ?_
            | with_reducible refine v_cT ?_
            | with_reducible refine v_cF ?_
            | ((with_reducible refine v_as ?_ ?_); · first | omega | decide | (dsimp only; omega) | (simp; done) | (simp; omega) | (exact of_decide_eq_true rfl))
            | ((with_reducible apply v_ix); (first | omega | decide | (simp; done) | (dsimp only [List.length_cons, List.length_nil]; omega)); (exact rfl))
            | with_reducible refine v_p2 ?_
            | with_reducible refine v_selb ?_
            | with_reducible refine v_sele ?_
            | with_reducible refine v_selrl ?_
            | with_reducible refine v_selrr ?_
            | ((with_reducible refine v_ifT ?_ ?_); · first | omega | decide | (dsimp only; omega))
            | ((with_reducible refine v_ifF ?_ ?_); · first | omega | decide | (dsimp only; omega))
            | with_reducible refine v_brk ?_
            | with_reducible refine v_esc ?_
            | dsimp only [List.nil_append, List.cons_append]
            | with_reducible apply v_bi
            | with_reducible refine v_bnd ?_)
        · have ih := dL1 hy h0 h1 hu hd k (q - 1) (r + y1) (by rw [e, Int.sub_mul]; omega) hq2 (by omega) (by omega) (by omega) (by omega) (n := n)
          repeat (first
            | with_reducible exact v_end
            | ((with_reducible refine v_fin ?_); (exact rfl))
            | ((with_reducible refine v_w ?_ ?_); · first | omega | decide | (dsimp only; omega) | (simp; done) | (simp; omega))
            | ((with_reducible refine v_wu ?_ ?_); · first | omega | decide | (dsimp only; omega) | (simp; done) | (simp; omega))
            | ((with_reducible refine v_T ?_ ?_); · first | omega | decide | (dsimp only; omega) | (simp; done) | (simp; omega) | (exact of_decide_eq_true rfl))
            | ((with_reducible refine v_F ?_ ?_); · first | omega | decide | (dsimp only; omega) | (simp; done) | (simp; omega) | (exact of_decide_eq_true rfl))
            | with_reducible refine v_nT ?_
            | with_reducible refine v_nF ?_
            | with_reducible refine v_cT ?_
            | with_reducible refine v_cF ?_
            | ((with_reducible refine v_as ?_ ?_); · first | omega | decide | (dsimp only; omega) | (simp; done) | (simp; omega) | (exact of_decide_eq_true rfl))
            | ((with_reducible apply v_ix); (first | omega | decide | (simp; done) | (dsimp only [List.length_cons, List.length_nil]; omega)); (exact rfl))
            | with_reducible refine v_p2 ?_
            | with_reducible refine v_selb ?_
            | with_reducible refine v_sele ?_
            | with_reducible refine v_selrl ?_
            | with_reducible refine v_selrr ?_
            | ((with_reducible refine v_ifT ?_ ?_); · first | omega | decide | (dsimp only; omega))
            | ((with_reducible refine v_ifF ?_ ?_); · first | omega | decide | (dsimp only; omega))
            | with_reducible refine v_brk ?_
            | with_reducible refine v_esc ?_
            | dsimp only [List.nil_append, List.cons_append]
            | exact ih
            | with_reducible apply v_bi
            | with_reducible refine v_bnd ?_)
      · have hf := knuth_lo (q := q) (r := r) hy h0 h1 hu hd e hq (.inl ⟨by omega, by omega⟩)
        rw [← hf]
        repeat (first
          | with_reducible exact v_end
          | ((with_reducible refine v_fin ?_); (exact rfl))
          | ((with_reducible refine v_w ?_ ?_); · first | omega | decide | (dsimp only; omega) | (simp; done) | (simp; omega))
          | ((with_reducible refine v_wu ?_ ?_); · first | omega | decide | (dsimp only; omega) | (simp; done) | (simp; omega))
          | ((with_reducible refine v_T ?_ ?_); · first | omega | decide | (dsimp only; omega) | (simp; done) | (simp; omega) | (exact of_decide_eq_true rfl))
          | ((with_reducible refine v_F ?_ ?_); · first | omega | decide | (dsimp only; omega) | (simp; done) | (simp; omega) | (exact of_decide_eq_true rfl))
          | with_reducible refine v_nT ?_
          | with_reducible refine v_nF ?_
          | with_reducible refine v_cT ?_
          | with_reducible refine v_cF ?_
          | ((with_reducible refine v_as ?_ ?_); · first | omega | decide | (dsimp only; omega) | (simp; done) | (simp; omega) | (exact of_decide_eq_true rfl))
          | ((with_reducible apply v_ix); (first | omega | decide | (simp; done) | (dsimp only [List.length_cons, List.length_nil]; omega)); (exact rfl))
          | with_reducible refine v_p2 ?_
          | with_reducible refine v_selb ?_
          | with_reducible refine v_sele ?_
          | with_reducible refine v_selrl ?_
          | with_reducible refine v_selrr ?_
          | ((with_reducible refine v_ifT ?_ ?_); · first | omega | decide | (dsimp only; omega))
          | ((with_reducible refine v_ifF ?_ ?_); · first | omega | decide | (dsimp only; omega))
          | with_reducible refine v_brk ?_
          | with_reducible refine v_esc ?_
          | dsimp only [List.nil_append, List.cons_append]
          | with_reducible apply v_bi
          | with_reducible refine v_bnd ?_)
end Go.Pv
