/- TopUnits: vouchers of sales and of scrap. -/
import Derived.Test.YtiamgfjojjjggaaGreatD47
set_option linter.unusedSimpArgs false
set_option linter.unusedVariables false
namespace Go.Pv
open Go.Proofs
set_option maxRecDepth 100000
set_option maxHeartbeats 4000000
variable {n : Nat}
theorem ppX {a c : Int} (sa : Sm a) (sc : Sm c) (ha : a ≠ 0) (hc : c ≠ 0) : d_voucher_Plain (n + 12) [⟨0, a⟩, ⟨7, c⟩] = some ([⟨0, a⟩, ⟨7, c⟩], 0) := by
  repeat (first
    | with_reducible exact v_end
    | ((with_reducible refine v_fin ?_); (exact rfl))
    | ((with_reducible refine v_w ?_ ?_); · first | omega | decide | (dsimp only; omega) | (simp; done) | (simp; omega))
    | ((with_reducible refine v_wu ?_ ?_); · first | omega | decide | (dsimp only; omega) | (simp; done) | (simp; omega))
    | ((with_reducible refine v_T ?_ ?_); · first | omega | decide | (dsimp only; omega) | (simp; done) | (simp; omega) | (exact of_decide_eq_true rfl))
    | ((with_reducible refine v_F ?_ ?_); · first | omega | decide | (dsimp only; omega) | (simp; done) | (simp; omega) | (exact of_decide_eq_true rfl))
    | with_reducible refine v_nT ?_
    | with_reducible refine v_nF ?_
    | with_reducible refine v_cT ?_
    | with_reducible refine v_cF ?_
    | ((with_reducible refine v_as ?_ ?_); · first | omega | decide | (dsimp only; omega) | (simp; done) | (simp; omega) | (exact of_decide_eq_true rfl))
    | ((with_reducible apply v_ix); (first | omega | decide | (simp; done) | (dsimp only [List.length_cons, List.length_nil]; omega)); (exact rfl))
    | with_reducible refine v_p2 ?_
    | with_reducible refine v_selb ?_
    | with_reducible refine v_sele ?_
    | with_reducible refine v_selrl ?_
    | with_reducible refine v_selrr ?_
    | ((with_reducible refine v_ifT ?_ ?_); · first | omega | decide | (dsimp only; omega))
    | ((with_reducible refine v_ifF ?_ ?_); · first | omega | decide | (dsimp only; omega))
    | with_reducible refine v_brk ?_
    | with_reducible refine v_esc ?_
    | dsimp only [List.nil_append, List.cons_append]
    | with_reducible apply v_bi
    | rw [d_voucher_Plain]
    | rw [d_voucher_Plain_L0]
    | rw [d_voucher_Plain_1]
    | rw [d_voucher_is]
    | rw [d_voucher_in]
    | rw [d_voucher_Plain_L1]
    | rw [d_voucher_Plain_L2]
    | rw [d_voucher_Plain_L3]
    | rw [d_voucher_Plain_2]
    | rw [d_cmp_Compare_int]
    | rw [d_cmp_isNaN_int]
    | rw [d_voucher_Plain_L4]
    | rw [d_voucher_Plain_L5]
    | rw [d_voucher_Plain_L6]
    | rw [d_voucher_Plain_L7]
    | rw [d_voucher_Plain_3]
    | with_reducible refine v_bnd ?_)
theorem ckX {a c : Int} (sa : Sm a) (sc : Sm c) (ha : a ≠ 0) (hc : c ≠ 0) (hs : a + c = 0) : d_voucher_Check (n + 14) [⟨0, a⟩, ⟨7, c⟩] = some true := by
  repeat (first
    | with_reducible exact v_end
    | ((with_reducible refine v_fin ?_); (exact rfl))
    | ((with_reducible refine v_w ?_ ?_); · first | omega | decide | (dsimp only; omega) | (simp; done) | (simp; omega))
    | ((with_reducible refine v_wu ?_ ?_); · first | omega | decide | (dsimp only; omega) | (simp; done) | (simp; omega))
    | ((with_reducible refine v_T ?_ ?_); · first | omega | decide | (dsimp only; omega) | (simp; done) | (simp; omega) | (exact of_decide_eq_true rfl))
    | ((with_reducible refine v_F ?_ ?_); · first | omega | decide | (dsimp only; omega) | (simp; done) | (simp; omega) | (exact of_decide_eq_true rfl))
    | with_reducible refine v_nT ?_
    | with_reducible refine v_nF ?_
    | with_reducible refine v_cT ?_
    | with_reducible refine v_cF ?_
    | ((with_reducible refine v_as ?_ ?_); · first | omega | decide | (dsimp only; omega) | (simp; done) | (simp; omega) | (exact of_decide_eq_true rfl))
    | ((with_reducible apply v_ix); (first | omega | decide | (simp; done) | (dsimp only [List.length_cons, List.length_nil]; omega)); (exact rfl))
    | with_reducible refine v_p2 ?_
    | with_reducible refine v_selb ?_
    | with_reducible refine v_sele ?_
    | with_reducible refine v_selrl ?_
    | with_reducible refine v_selrr ?_
    | ((with_reducible refine v_ifT ?_ ?_); · first | omega | decide | (dsimp only; omega))
    | ((with_reducible refine v_ifF ?_ ?_); · first | omega | decide | (dsimp only; omega))
    | with_reducible refine v_bi (sum2 (by first | omega | (dsimp only; omega) | decide | (simp; omega)) (by first | omega | (dsimp only; omega) | decide | (simp; omega)) (by first | omega | (dsimp only; omega) | decide | (simp; omega))) ?_
    | with_reducible refine v_brk ?_
    | with_reducible refine v_esc ?_
    | dsimp only [List.nil_append, List.cons_append]
    | with_reducible apply v_bi
    | rw [d_voucher_Check]
    | rw [d_voucher_Check_L0]
    | rw [d_voucher_Check_1]
    | rw [d_voucher_is]
    | rw [d_voucher_in]
    | rw [d_voucher_sum]
    | rw [d_voucher_sum_L0]
    | with_reducible refine v_bnd ?_)
theorem glX {bal : List Int} {b0 b6 a c : Int} (hl : bal.length = 17) (h0 : bal[(0 : Int).toNat]? = some b0) (s0 : Sm b0 ∧ Sm a ∧ Sm (b0 + a)) (h6 : bal[(7 : Int).toNat]? = some b6) (s6 : Sm b6 ∧ Sm c ∧ Sm (b6 + c)) (ha : a ≠ 0) (hc : c ≠ 0) (hs : a + c = 0) : d_gl_Post (n + 14) bal [⟨0, a⟩, ⟨7, c⟩] = some (((bal).set (0 : Int).toNat (b0 + a)).set (7 : Int).toNat (b6 + c), 0) := by
  have i0 := h0
  have i6 : ((bal).set (0 : Int).toNat (b0 + a))[(7 : Int).toNat]? = some b6 := by rw [List.getElem?_set_ne (by decide)]; exact h6
  have hp := ppX (n := n + 2) s0.2.1 s6.2.1 ha hc
  have hk := ckX (n := n) s0.2.1 s6.2.1 ha hc hs
  unfold d_gl_Post
  repeat (first
    | with_reducible exact v_end
    | ((with_reducible refine v_fin ?_); (exact rfl))
    | ((with_reducible refine v_w ?_ ?_); · first | omega | decide | (dsimp only; omega) | (simp; done) | (simp; omega))
    | ((with_reducible refine v_wu ?_ ?_); · first | omega | decide | (dsimp only; omega) | (simp; done) | (simp; omega))
    | ((with_reducible refine v_T ?_ ?_); · first | omega | decide | (dsimp only; omega) | (simp; done) | (simp; omega) | (exact of_decide_eq_true rfl))
    | ((with_reducible refine v_F ?_ ?_); · first | omega | decide | (dsimp only; omega) | (simp; done) | (simp; omega) | (exact of_decide_eq_true rfl))
    | with_reducible refine v_nT ?_
    | with_reducible refine v_nF ?_
    | with_reducible refine v_cT ?_
    | with_reducible refine v_cF ?_
    | ((with_reducible refine v_as ?_ ?_); · first | omega | decide | (dsimp only; omega) | (simp; done) | (simp; omega) | (exact of_decide_eq_true rfl))
    | with_reducible refine v_ix (by decide) i0 ?_
    | with_reducible refine v_ix (by decide) i6 ?_
    | ((with_reducible apply v_ix); (first | omega | decide | (simp; done) | (dsimp only [List.length_cons, List.length_nil]; omega)); (exact rfl))
    | with_reducible refine v_p2 ?_
    | with_reducible refine v_selb ?_
    | with_reducible refine v_sele ?_
    | with_reducible refine v_selrl ?_
    | with_reducible refine v_selrr ?_
    | ((with_reducible refine v_ifT ?_ ?_); · first | omega | decide | (dsimp only; omega))
    | ((with_reducible refine v_ifF ?_ ?_); · first | omega | decide | (dsimp only; omega))
    | with_reducible refine v_bi (hp) ?_
    | with_reducible refine v_bi (hk) ?_
    | with_reducible refine v_bi (add_v s0.1 s0.2.1 s0.2.2) ?_
    | with_reducible refine v_bi (add_v s6.1 s6.2.1 s6.2.2) ?_
    | with_reducible refine v_brk ?_
    | with_reducible refine v_esc ?_
    | dsimp only [List.nil_append, List.cons_append]
    | with_reducible apply v_bi
    | rw [d_gl_Post_L0]
    | with_reducible refine v_bnd ?_)
theorem plX {c d : Int} (sc : Sm c) (sd : Sm d) (hc : c ≠ 0) (hd : d ≠ 0) : d_voucher_Plain (n + 12) [⟨7, c⟩, ⟨0, d⟩] = some ([⟨0, d⟩, ⟨7, c⟩], 0) := by
  repeat (first
    | with_reducible exact v_end
    | ((with_reducible refine v_fin ?_); (exact rfl))
    | ((with_reducible refine v_w ?_ ?_); · first | omega | decide | (dsimp only; omega) | (simp; done) | (simp; omega))
    | ((with_reducible refine v_wu ?_ ?_); · first | omega | decide | (dsimp only; omega) | (simp; done) | (simp; omega))
    | ((with_reducible refine v_T ?_ ?_); · first | omega | decide | (dsimp only; omega) | (simp; done) | (simp; omega) | (exact of_decide_eq_true rfl))
    | ((with_reducible refine v_F ?_ ?_); · first | omega | decide | (dsimp only; omega) | (simp; done) | (simp; omega) | (exact of_decide_eq_true rfl))
    | with_reducible refine v_nT ?_
    | with_reducible refine v_nF ?_
    | with_reducible refine v_cT ?_
    | with_reducible refine v_cF ?_
    | ((with_reducible refine v_as ?_ ?_); · first | omega | decide | (dsimp only; omega) | (simp; done) | (simp; omega) | (exact of_decide_eq_true rfl))
    | ((with_reducible apply v_ix); (first | omega | decide | (simp; done) | (dsimp only [List.length_cons, List.length_nil]; omega)); (exact rfl))
    | with_reducible refine v_p2 ?_
    | with_reducible refine v_selb ?_
    | with_reducible refine v_sele ?_
    | with_reducible refine v_selrl ?_
    | with_reducible refine v_selrr ?_
    | ((with_reducible refine v_ifT ?_ ?_); · first | omega | decide | (dsimp only; omega))
    | ((with_reducible refine v_ifF ?_ ?_); · first | omega | decide | (dsimp only; omega))
    | with_reducible refine v_brk ?_
    | with_reducible refine v_esc ?_
    | dsimp only [List.nil_append, List.cons_append]
    | with_reducible apply v_bi
    | rw [d_voucher_Plain]
    | rw [d_voucher_Plain_L0]
    | rw [d_voucher_Plain_1]
    | rw [d_voucher_is]
    | rw [d_voucher_in]
    | rw [d_voucher_Plain_L1]
    | rw [d_voucher_Plain_L2]
    | rw [d_voucher_Plain_L3]
    | rw [d_voucher_Plain_2]
    | rw [d_cmp_Compare_int]
    | rw [d_cmp_isNaN_int]
    | rw [d_voucher_Plain_L4]
    | rw [d_voucher_Plain_L5]
    | rw [d_voucher_Plain_L6]
    | rw [d_voucher_Plain_L7]
    | rw [d_voucher_Plain_3]
    | with_reducible refine v_bnd ?_)
theorem plX0 : d_voucher_Plain (n + 12) [⟨7, 0⟩, ⟨0, 0⟩] = some ([], 0) := by kernel_rfl
theorem plV : d_voucher_Plain (n + 12) [⟨3, 1⟩, ⟨4, -1⟩, ⟨5, 0⟩, ⟨0, 0⟩] = some ([⟨3, 1⟩, ⟨4, -1⟩], 0) := by kernel_rfl
theorem ppV : d_voucher_Plain (n + 12) [⟨3, 1⟩, ⟨4, -1⟩] = some ([⟨3, 1⟩, ⟨4, -1⟩], 0) := by kernel_rfl
theorem ckV : d_voucher_Check (n + 14) [⟨3, 1⟩, ⟨4, -1⟩] = some true := by kernel_rfl
theorem glV {bal : List Int} {b3 b4 : Int} (hl : bal.length = 17) (h3 : bal[(3 : Int).toNat]? = some b3) (s3 : Sm b3 ∧ Sm 1 ∧ Sm (b3 + 1)) (h4 : bal[(4 : Int).toNat]? = some b4) (s4 : Sm b4 ∧ Sm (-1) ∧ Sm (b4 + -1)) : d_gl_Post (n + 14) bal [⟨3, 1⟩, ⟨4, -1⟩] = some (((bal).set (3 : Int).toNat (b3 + 1)).set (4 : Int).toNat (b4 + -1), 0) := by
  have i0 := h3
  have i6 : ((bal).set (3 : Int).toNat (b3 + 1))[(4 : Int).toNat]? = some b4 := by rw [List.getElem?_set_ne (by decide)]; exact h4
  have hp := ppV (n := n + 2)
  have hk := ckV (n := n)
  unfold d_gl_Post
  repeat (first
    | with_reducible exact v_end
    | ((with_reducible refine v_fin ?_); (exact rfl))
    | ((with_reducible refine v_w ?_ ?_); · first | omega | decide | (dsimp only; omega) | (simp; done) | (simp; omega))
    | ((with_reducible refine v_wu ?_ ?_); · first | omega | decide | (dsimp only; omega) | (simp; done) | (simp; omega))
    | ((with_reducible refine v_T ?_ ?_); · first | omega | decide | (dsimp only; omega) | (simp; done) | (simp; omega) | (exact of_decide_eq_true rfl))
    | ((with_reducible refine v_F ?_ ?_); · first | omega | decide | (dsimp only; omega) | (simp; done) | (simp; omega) | (exact of_decide_eq_true rfl))
    | with_reducible refine v_nT ?_
    | with_reducible refine v_nF ?_
    | with_reducible refine v_cT ?_
    | with_reducible refine v_cF ?_
    | ((with_reducible refine v_as ?_ ?_); · first | omega | decide | (dsimp only; omega) | (simp; done) | (simp; omega) | (exact of_decide_eq_true rfl))
    | with_reducible refine v_ix (by decide) i0 ?_
    | with_reducible refine v_ix (by decide) i6 ?_
    | ((with_reducible apply v_ix); (first | omega | decide | (simp; done) | (dsimp only [List.length_cons, List.length_nil]; omega)); (exact rfl))
    | with_reducible refine v_p2 ?_
    | with_reducible refine v_selb ?_
    | with_reducible refine v_sele ?_
    | with_reducible refine v_selrl ?_
    | with_reducible refine v_selrr ?_
    | ((with_reducible refine v_ifT ?_ ?_); · first | omega | decide | (dsimp only; omega))
    | ((with_reducible refine v_ifF ?_ ?_); · first | omega | decide | (dsimp only; omega))
    | with_reducible refine v_bi (hp) ?_
    | with_reducible refine v_bi (hk) ?_
    | with_reducible refine v_bi (add_v s3.1 s3.2.1 s3.2.2) ?_
    | with_reducible refine v_bi (add_v s4.1 s4.2.1 s4.2.2) ?_
    | with_reducible refine v_brk ?_
    | with_reducible refine v_esc ?_
    | dsimp only [List.nil_append, List.cons_append]
    | with_reducible apply v_bi
    | rw [d_gl_Post_L0]
    | with_reducible refine v_bnd ?_)
theorem plT {c d : Int} (sc : Sm c) (sd : Sm d) (hc : c ≠ 0) (hd : d ≠ 0) : d_voucher_Plain (n + 12) [⟨3, 1⟩, ⟨4, -1⟩, ⟨5, c⟩, ⟨0, d⟩] = some ([⟨0, d⟩, ⟨3, 1⟩, ⟨4, -1⟩, ⟨5, c⟩], 0) := by
  repeat (first
    | with_reducible exact v_end
    | ((with_reducible refine v_fin ?_); (exact rfl))
    | ((with_reducible refine v_w ?_ ?_); · first | omega | decide | (dsimp only; omega) | (simp; done) | (simp; omega))
    | ((with_reducible refine v_wu ?_ ?_); · first | omega | decide | (dsimp only; omega) | (simp; done) | (simp; omega))
    | ((with_reducible refine v_T ?_ ?_); · first | omega | decide | (dsimp only; omega) | (simp; done) | (simp; omega) | (exact of_decide_eq_true rfl))
    | ((with_reducible refine v_F ?_ ?_); · first | omega | decide | (dsimp only; omega) | (simp; done) | (simp; omega) | (exact of_decide_eq_true rfl))
    | with_reducible refine v_nT ?_
    | with_reducible refine v_nF ?_
    | with_reducible refine v_cT ?_
    | with_reducible refine v_cF ?_
    | ((with_reducible refine v_as ?_ ?_); · first | omega | decide | (dsimp only; omega) | (simp; done) | (simp; omega) | (exact of_decide_eq_true rfl))
    | ((with_reducible apply v_ix); (first | omega | decide | (simp; done) | (dsimp only [List.length_cons, List.length_nil]; omega)); (exact rfl))
    | with_reducible refine v_p2 ?_
    | with_reducible refine v_selb ?_
    | with_reducible refine v_sele ?_
    | with_reducible refine v_selrl ?_
    | with_reducible refine v_selrr ?_
    | ((with_reducible refine v_ifT ?_ ?_); · first | omega | decide | (dsimp only; omega))
    | ((with_reducible refine v_ifF ?_ ?_); · first | omega | decide | (dsimp only; omega))
    | with_reducible refine v_brk ?_
    | with_reducible refine v_esc ?_
    | dsimp only [List.nil_append, List.cons_append]
    | with_reducible apply v_bi
    | rw [d_voucher_Plain]
    | rw [d_voucher_Plain_L0]
    | rw [d_voucher_Plain_1]
    | rw [d_voucher_is]
    | rw [d_voucher_in]
    | rw [d_voucher_Plain_L1]
    | rw [d_voucher_Plain_L2]
    | rw [d_voucher_Plain_L3]
    | rw [d_voucher_Plain_2]
    | rw [d_cmp_Compare_int]
    | rw [d_cmp_isNaN_int]
    | rw [d_voucher_Plain_L4]
    | rw [d_voucher_Plain_L5]
    | rw [d_voucher_Plain_L6]
    | rw [d_voucher_Plain_L7]
    | rw [d_voucher_Plain_3]
    | with_reducible refine v_bnd ?_)
theorem ppT {c d : Int} (sc : Sm c) (sd : Sm d) (hc : c ≠ 0) (hd : d ≠ 0) : d_voucher_Plain (n + 12) [⟨0, d⟩, ⟨3, 1⟩, ⟨4, -1⟩, ⟨5, c⟩] = some ([⟨0, d⟩, ⟨3, 1⟩, ⟨4, -1⟩, ⟨5, c⟩], 0) := by
  repeat (first
    | with_reducible exact v_end
    | ((with_reducible refine v_fin ?_); (exact rfl))
    | ((with_reducible refine v_w ?_ ?_); · first | omega | decide | (dsimp only; omega) | (simp; done) | (simp; omega))
    | ((with_reducible refine v_wu ?_ ?_); · first | omega | decide | (dsimp only; omega) | (simp; done) | (simp; omega))
    | ((with_reducible refine v_T ?_ ?_); · first | omega | decide | (dsimp only; omega) | (simp; done) | (simp; omega) | (exact of_decide_eq_true rfl))
    | ((with_reducible refine v_F ?_ ?_); · first | omega | decide | (dsimp only; omega) | (simp; done) | (simp; omega) | (exact of_decide_eq_true rfl))
    | with_reducible refine v_nT ?_
    | with_reducible refine v_nF ?_
    | with_reducible refine v_cT ?_
    | with_reducible refine v_cF ?_
    | ((with_reducible refine v_as ?_ ?_); · first | omega | decide | (dsimp only; omega) | (simp; done) | (simp; omega) | (exact of_decide_eq_true rfl))
    | ((with_reducible apply v_ix); (first | omega | decide | (simp; done) | (dsimp only [List.length_cons, List.length_nil]; omega)); (exact rfl))
    | with_reducible refine v_p2 ?_
    | with_reducible refine v_selb ?_
    | with_reducible refine v_sele ?_
    | with_reducible refine v_selrl ?_
    | with_reducible refine v_selrr ?_
    | ((with_reducible refine v_ifT ?_ ?_); · first | omega | decide | (dsimp only; omega))
    | ((with_reducible refine v_ifF ?_ ?_); · first | omega | decide | (dsimp only; omega))
    | with_reducible refine v_brk ?_
    | with_reducible refine v_esc ?_
    | dsimp only [List.nil_append, List.cons_append]
    | with_reducible apply v_bi
    | rw [d_voucher_Plain]
    | rw [d_voucher_Plain_L0]
    | rw [d_voucher_Plain_1]
    | rw [d_voucher_is]
    | rw [d_voucher_in]
    | rw [d_voucher_Plain_L1]
    | rw [d_voucher_Plain_L2]
    | rw [d_voucher_Plain_L3]
    | rw [d_voucher_Plain_2]
    | rw [d_cmp_Compare_int]
    | rw [d_cmp_isNaN_int]
    | rw [d_voucher_Plain_L4]
    | rw [d_voucher_Plain_L5]
    | rw [d_voucher_Plain_L6]
    | rw [d_voucher_Plain_L7]
    | rw [d_voucher_Plain_3]
    | with_reducible refine v_bnd ?_)
theorem sum4 {a b c e : Int} (ha : Sm a) (hb : Sm b) (hc : Sm c) (he : Sm e) (h : Sm (a + b)) (h3 : Sm (a + b + c)) (h4 : Sm (a + b + c + e)) : d_money_Sum (n + 12) [a, b, c, e] = some (0 + a + b + c + e, 0) := by
  unfold d_money_Sum
  repeat (first
    | with_reducible exact v_end
    | ((with_reducible refine v_fin ?_); (exact rfl))
    | ((with_reducible refine v_w ?_ ?_); · first | omega | decide | (dsimp only; omega) | (simp; done) | (simp; omega))
    | ((with_reducible refine v_wu ?_ ?_); · first | omega | decide | (dsimp only; omega) | (simp; done) | (simp; omega))
    | ((with_reducible refine v_T ?_ ?_); · first | omega | decide | (dsimp only; omega) | (simp; done) | (simp; omega) | (exact of_decide_eq_true rfl))
    | ((with_reducible refine v_F ?_ ?_); · first | omega | decide | (dsimp only; omega) | (simp; done) | (simp; omega) | (exact of_decide_eq_true rfl))
    | with_reducible refine v_nT ?_
    | with_reducible refine v_nF ?_
    | with_reducible refine v_cT ?_
    | with_reducible refine v_cF ?_
    | ((with_reducible refine v_as ?_ ?_); · first | omega | decide | (dsimp only; omega) | (simp; done) | (simp; omega) | (exact of_decide_eq_true rfl))
    | ((with_reducible apply v_ix); (first | omega | decide | (simp; done) | (dsimp only [List.length_cons, List.length_nil]; omega)); (exact rfl))
    | with_reducible refine v_p2 ?_
    | with_reducible refine v_selb ?_
    | with_reducible refine v_sele ?_
    | with_reducible refine v_selrl ?_
    | with_reducible refine v_selrr ?_
    | ((with_reducible refine v_ifT ?_ ?_); · first | omega | decide | (dsimp only; omega))
    | ((with_reducible refine v_ifF ?_ ?_); · first | omega | decide | (dsimp only; omega))
    | with_reducible refine v_bi (add_v (by first | omega | decide | (dsimp only; omega) | (simp; omega)) (by first | omega | decide | (dsimp only; omega) | (simp; omega)) (by first | omega | decide | (dsimp only; omega) | (simp; omega))) ?_
    | with_reducible refine v_brk ?_
    | with_reducible refine v_esc ?_
    | dsimp only [List.nil_append, List.cons_append]
    | with_reducible apply v_bi
    | rw [d_money_Sum_L0]
    | with_reducible refine v_bnd ?_)
theorem ckT {c d : Int} (hb : -1000000 ≤ d ∧ d ≤ 1000000) (sc : Sm c) (sd : Sm d) (hc : c ≠ 0) (hd : d ≠ 0) (hs : d + c = 0) : d_voucher_Check (n + 14) [⟨0, d⟩, ⟨3, 1⟩, ⟨4, -1⟩, ⟨5, c⟩] = some true := by
  repeat (first
    | with_reducible exact v_end
    | ((with_reducible refine v_fin ?_); (exact rfl))
    | ((with_reducible refine v_w ?_ ?_); · first | omega | decide | (dsimp only; omega) | (simp; done) | (simp; omega))
    | ((with_reducible refine v_wu ?_ ?_); · first | omega | decide | (dsimp only; omega) | (simp; done) | (simp; omega))
    | ((with_reducible refine v_T ?_ ?_); · first | omega | decide | (dsimp only; omega) | (simp; done) | (simp; omega) | (exact of_decide_eq_true rfl))
    | ((with_reducible refine v_F ?_ ?_); · first | omega | decide | (dsimp only; omega) | (simp; done) | (simp; omega) | (exact of_decide_eq_true rfl))
    | with_reducible refine v_nT ?_
    | with_reducible refine v_nF ?_
    | with_reducible refine v_cT ?_
    | with_reducible refine v_cF ?_
    | ((with_reducible refine v_as ?_ ?_); · first | omega | decide | (dsimp only; omega) | (simp; done) | (simp; omega) | (exact of_decide_eq_true rfl))
    | ((with_reducible apply v_ix); (first | omega | decide | (simp; done) | (dsimp only [List.length_cons, List.length_nil]; omega)); (exact rfl))
    | with_reducible refine v_p2 ?_
    | with_reducible refine v_selb ?_
    | with_reducible refine v_sele ?_
    | with_reducible refine v_selrl ?_
    | with_reducible refine v_selrr ?_
    | ((with_reducible refine v_ifT ?_ ?_); · first | omega | decide | (dsimp only; omega))
    | ((with_reducible refine v_ifF ?_ ?_); · first | omega | decide | (dsimp only; omega))
    | with_reducible refine v_bi (sum4 (by first | omega | (dsimp only; omega) | decide | (simp; omega)) (by first | omega | (dsimp only; omega) | decide | (simp; omega)) (by first | omega | (dsimp only; omega) | decide | (simp; omega)) (by first | omega | (dsimp only; omega) | decide | (simp; omega)) (by first | omega | (dsimp only; omega) | decide | (simp; omega)) (by first | omega | (dsimp only; omega) | decide | (simp; omega)) (by first | omega | (dsimp only; omega) | decide | (simp; omega))) ?_
    | with_reducible refine v_brk ?_
    | with_reducible refine v_esc ?_
    | dsimp only [List.nil_append, List.cons_append]
    | with_reducible apply v_bi
    | rw [d_voucher_Check]
    | rw [d_voucher_Check_L0]
    | rw [d_voucher_Check_1]
    | rw [d_voucher_is]
    | rw [d_voucher_in]
    | rw [d_voucher_sum]
    | rw [d_voucher_sum_L0]
    | with_reducible refine v_bnd ?_)
theorem glT {bal : List Int} {b0 b3 b4 b5 c d : Int} (hl : bal.length = 17) (h0 : bal[(0 : Int).toNat]? = some b0) (s0 : Sm b0 ∧ Sm d ∧ Sm (b0 + d)) (h3 : bal[(3 : Int).toNat]? = some b3) (s3 : Sm b3 ∧ Sm 1 ∧ Sm (b3 + 1)) (h4 : bal[(4 : Int).toNat]? = some b4) (s4 : Sm b4 ∧ Sm (-1) ∧ Sm (b4 + -1)) (h5 : bal[(5 : Int).toNat]? = some b5) (s5 : Sm b5 ∧ Sm c ∧ Sm (b5 + c)) (hc : c ≠ 0) (hd : d ≠ 0) (hs : d + c = 0) (hb : -1000000 ≤ d ∧ d ≤ 1000000) :
    d_gl_Post (n + 14) bal [⟨0, d⟩, ⟨3, 1⟩, ⟨4, -1⟩, ⟨5, c⟩] = some (((((bal).set (0 : Int).toNat (b0 + d)).set (3 : Int).toNat (b3 + 1)).set (4 : Int).toNat (b4 + -1)).set (5 : Int).toNat (b5 + c), 0) := by
  have i0 := h0
  have i3 : ((bal).set (0 : Int).toNat (b0 + d))[(3 : Int).toNat]? = some b3 := by rw [List.getElem?_set_ne (by decide)]; exact h3
  have i4 : (((bal).set (0 : Int).toNat (b0 + d)).set (3 : Int).toNat (b3 + 1))[(4 : Int).toNat]? = some b4 := by rw [List.getElem?_set_ne (by decide), List.getElem?_set_ne (by decide)]; exact h4
  have i5 : ((((bal).set (0 : Int).toNat (b0 + d)).set (3 : Int).toNat (b3 + 1)).set (4 : Int).toNat (b4 + -1))[(5 : Int).toNat]? = some b5 := by rw [List.getElem?_set_ne (by decide), List.getElem?_set_ne (by decide), List.getElem?_set_ne (by decide)]; exact h5
  have hp := ppT (n := n + 2) s5.2.1 s0.2.1 hc hd
  have hk := ckT (n := n) hb s5.2.1 s0.2.1 hc hd hs
  unfold d_gl_Post
  repeat (first
    | with_reducible exact v_end
    | ((with_reducible refine v_fin ?_); (exact rfl))
    | ((with_reducible refine v_w ?_ ?_); · first | omega | decide | (dsimp only; omega) | (simp; done) | (simp; omega))
    | ((with_reducible refine v_wu ?_ ?_); · first | omega | decide | (dsimp only; omega) | (simp; done) | (simp; omega))
    | ((with_reducible refine v_T ?_ ?_); · first | omega | decide | (dsimp only; omega) | (simp; done) | (simp; omega) | (exact of_decide_eq_true rfl))
    | ((with_reducible refine v_F ?_ ?_); · first | omega | decide | (dsimp only; omega) | (simp; done) | (simp; omega) | (exact of_decide_eq_true rfl))
    | with_reducible refine v_nT ?_
    | with_reducible refine v_nF ?_
    | with_reducible refine v_cT ?_
    | with_reducible refine v_cF ?_
    | ((with_reducible refine v_as ?_ ?_); · first | omega | decide | (dsimp only; omega) | (simp; done) | (simp; omega) | (exact of_decide_eq_true rfl))
    | with_reducible refine v_ix (by decide) i0 ?_
    | with_reducible refine v_ix (by decide) i3 ?_
    | with_reducible refine v_ix (by decide) i4 ?_
    | with_reducible refine v_ix (by decide) i5 ?_
    | ((with_reducible apply v_ix); (first | omega | decide | (simp; done) | (dsimp only [List.length_cons, List.length_nil]; omega)); (exact rfl))
    | with_reducible refine v_p2 ?_
    | with_reducible refine v_selb ?_
    | with_reducible refine v_sele ?_
    | with_reducible refine v_selrl ?_
    | with_reducible refine v_selrr ?_
    | ((with_reducible refine v_ifT ?_ ?_); · first | omega | decide | (dsimp only; omega))
    | ((with_reducible refine v_ifF ?_ ?_); · first | omega | decide | (dsimp only; omega))
    | with_reducible refine v_bi (hp) ?_
    | with_reducible refine v_bi (hk) ?_
    | with_reducible refine v_bi (add_v s0.1 s0.2.1 s0.2.2) ?_
    | with_reducible refine v_bi (add_v s3.1 s3.2.1 s3.2.2) ?_
    | with_reducible refine v_bi (add_v s4.1 s4.2.1 s4.2.2) ?_
    | with_reducible refine v_bi (add_v s5.1 s5.2.1 s5.2.2) ?_
    | with_reducible refine v_brk ?_
    | with_reducible refine v_esc ?_
    | dsimp only [List.nil_append, List.cons_append]
    | with_reducible apply v_bi
    | rw [d_gl_Post_L0]
    | with_reducible refine v_bnd ?_)
end Go.Pv
