/- Plain laws: vouchers in the ledger, receipts. -/
import Derived.Test.YtiamgfjojjjggaaGreatC47
set_option linter.unusedSimpArgs false
set_option linter.unusedVariables false
namespace Go.Pv
open Go.Proofs
set_option maxRecDepth 100000
set_option maxHeartbeats 400000
variable {n : Nat}
theorem plA {a b c : Int} (sa : Sm a) (sb : Sm b) (sc : Sm c) (ha : a ≠ 0) (hb : b = 0) (hc : c ≠ 0) : d_voucher_Plain (n + 12) [⟨0, a⟩, ⟨6, b⟩, ⟨1, c⟩] = some ([⟨0, a⟩, ⟨1, c⟩], 0) := by
  repeat (first
    | with_reducible exact v_end
    | ((with_reducible refine v_fin ?_); (exact rfl))
    | ((with_reducible refine v_w ?_ ?_); · first | omega | decide | (dsimp only; omega) | (simp; done) | (simp; omega))
    | ((with_reducible refine v_wu ?_ ?_); · first | omega | decide | (dsimp only; omega) | (simp; done) | (simp; omega))
    | ((with_reducible refine v_T ?_ ?_); · first | omega | decide | (dsimp only; omega) | (simp; done) | (simp; omega) | (exact of_decide_eq_true rfl))
    | ((with_reducible refine v_F ?_ ?_); · first | omega | decide | (dsimp only; omega) | (simp; done) | (simp; omega) | (exact of_decide_eq_true rfl))
    | with_reducible refine v_nT ?_
    | with_reducible refine v_nF ?_
    | with_reducible refine v_cT ?_
    | with_reducible refine v_cF ?_
    | ((with_reducible refine v_as ?_ ?_); · first | omega | decide | (dsimp only; omega) | (simp; done) | (simp; omega) | (exact of_decide_eq_true rfl))
    | ((with_reducible apply v_ix); (first | omega | decide | (simp; done) | (dsimp only [List.length_cons, List.length_nil]; omega)); (exact rfl))
    | with_reducible refine v_p2 ?_
    | with_reducible refine v_selb ?_
    | with_reducible refine v_sele ?_
    | with_reducible refine v_selrl ?_
    | with_reducible refine v_selrr ?_
    | ((with_reducible refine v_ifT ?_ ?_); · first | omega | decide | (dsimp only; omega))
    | ((with_reducible refine v_ifF ?_ ?_); · first | omega | decide | (dsimp only; omega))
    | with_reducible refine v_brk ?_
    | with_reducible refine v_esc ?_
    | dsimp only [List.nil_append, List.cons_append]
    | with_reducible apply v_bi
    | rw [d_voucher_Plain]
    | rw [d_voucher_Plain_L0]
    | rw [d_voucher_Plain_1]
    | rw [d_voucher_is]
    | rw [d_voucher_in]
    | rw [d_voucher_Plain_L1]
    | rw [d_voucher_Plain_L2]
    | rw [d_voucher_Plain_L3]
    | rw [d_voucher_Plain_2]
    | rw [d_cmp_Compare_int]
    | rw [d_cmp_isNaN_int]
    | rw [d_voucher_Plain_L4]
    | rw [d_voucher_Plain_L5]
    | rw [d_voucher_Plain_L6]
    | rw [d_voucher_Plain_L7]
    | rw [d_voucher_Plain_3]
    | with_reducible refine v_bnd ?_)
theorem plB {a b c : Int} (sa : Sm a) (sb : Sm b) (sc : Sm c) (ha : a = 0) (hb : b = 0) (hc : c = 0) : d_voucher_Plain (n + 12) [⟨0, a⟩, ⟨6, b⟩, ⟨1, c⟩] = some ([], 0) := by
  repeat (first
    | with_reducible exact v_end
    | ((with_reducible refine v_fin ?_); (exact rfl))
    | ((with_reducible refine v_w ?_ ?_); · first | omega | decide | (dsimp only; omega) | (simp; done) | (simp; omega))
    | ((with_reducible refine v_wu ?_ ?_); · first | omega | decide | (dsimp only; omega) | (simp; done) | (simp; omega))
    | ((with_reducible refine v_T ?_ ?_); · first | omega | decide | (dsimp only; omega) | (simp; done) | (simp; omega) | (exact of_decide_eq_true rfl))
    | ((with_reducible refine v_F ?_ ?_); · first | omega | decide | (dsimp only; omega) | (simp; done) | (simp; omega) | (exact of_decide_eq_true rfl))
    | with_reducible refine v_nT ?_
    | with_reducible refine v_nF ?_
    | with_reducible refine v_cT ?_
    | with_reducible refine v_cF ?_
    | ((with_reducible refine v_as ?_ ?_); · first | omega | decide | (dsimp only; omega) | (simp; done) | (simp; omega) | (exact of_decide_eq_true rfl))
    | ((with_reducible apply v_ix); (first | omega | decide | (simp; done) | (dsimp only [List.length_cons, List.length_nil]; omega)); (exact rfl))
    | with_reducible refine v_p2 ?_
    | with_reducible refine v_selb ?_
    | with_reducible refine v_sele ?_
    | with_reducible refine v_selrl ?_
    | with_reducible refine v_selrr ?_
    | ((with_reducible refine v_ifT ?_ ?_); · first | omega | decide | (dsimp only; omega))
    | ((with_reducible refine v_ifF ?_ ?_); · first | omega | decide | (dsimp only; omega))
    | with_reducible refine v_brk ?_
    | with_reducible refine v_esc ?_
    | dsimp only [List.nil_append, List.cons_append]
    | with_reducible apply v_bi
    | rw [d_voucher_Plain]
    | rw [d_voucher_Plain_L0]
    | rw [d_voucher_Plain_1]
    | rw [d_voucher_is]
    | rw [d_voucher_in]
    | rw [d_voucher_Plain_L1]
    | rw [d_voucher_Plain_L2]
    | rw [d_voucher_Plain_L3]
    | rw [d_voucher_Plain_2]
    | rw [d_cmp_Compare_int]
    | rw [d_cmp_isNaN_int]
    | rw [d_voucher_Plain_L4]
    | rw [d_voucher_Plain_L5]
    | rw [d_voucher_Plain_L6]
    | rw [d_voucher_Plain_L7]
    | rw [d_voucher_Plain_3]
    | with_reducible refine v_bnd ?_)
theorem ppA {a c : Int} (sa : Sm a) (sc : Sm c) (ha : a ≠ 0) (hc : c ≠ 0) : d_voucher_Plain (n + 12) [⟨0, a⟩, ⟨1, c⟩] = some ([⟨0, a⟩, ⟨1, c⟩], 0) := by
  repeat (first
    | with_reducible exact v_end
    | ((with_reducible refine v_fin ?_); (exact rfl))
    | ((with_reducible refine v_w ?_ ?_); · first | omega | decide | (dsimp only; omega) | (simp; done) | (simp; omega))
    | ((with_reducible refine v_wu ?_ ?_); · first | omega | decide | (dsimp only; omega) | (simp; done) | (simp; omega))
    | ((with_reducible refine v_T ?_ ?_); · first | omega | decide | (dsimp only; omega) | (simp; done) | (simp; omega) | (exact of_decide_eq_true rfl))
    | ((with_reducible refine v_F ?_ ?_); · first | omega | decide | (dsimp only; omega) | (simp; done) | (simp; omega) | (exact of_decide_eq_true rfl))
    | with_reducible refine v_nT ?_
    | with_reducible refine v_nF ?_
    | with_reducible refine v_cT ?_
    | with_reducible refine v_cF ?_
    | ((with_reducible refine v_as ?_ ?_); · first | omega | decide | (dsimp only; omega) | (simp; done) | (simp; omega) | (exact of_decide_eq_true rfl))
    | ((with_reducible apply v_ix); (first | omega | decide | (simp; done) | (dsimp only [List.length_cons, List.length_nil]; omega)); (exact rfl))
    | with_reducible refine v_p2 ?_
    | with_reducible refine v_selb ?_
    | with_reducible refine v_sele ?_
    | with_reducible refine v_selrl ?_
    | with_reducible refine v_selrr ?_
    | ((with_reducible refine v_ifT ?_ ?_); · first | omega | decide | (dsimp only; omega))
    | ((with_reducible refine v_ifF ?_ ?_); · first | omega | decide | (dsimp only; omega))
    | with_reducible refine v_brk ?_
    | with_reducible refine v_esc ?_
    | dsimp only [List.nil_append, List.cons_append]
    | with_reducible apply v_bi
    | rw [d_voucher_Plain]
    | rw [d_voucher_Plain_L0]
    | rw [d_voucher_Plain_1]
    | rw [d_voucher_is]
    | rw [d_voucher_in]
    | rw [d_voucher_Plain_L1]
    | rw [d_voucher_Plain_L2]
    | rw [d_voucher_Plain_L3]
    | rw [d_voucher_Plain_2]
    | rw [d_cmp_Compare_int]
    | rw [d_cmp_isNaN_int]
    | rw [d_voucher_Plain_L4]
    | rw [d_voucher_Plain_L5]
    | rw [d_voucher_Plain_L6]
    | rw [d_voucher_Plain_L7]
    | rw [d_voucher_Plain_3]
    | with_reducible refine v_bnd ?_)
theorem ppB : d_voucher_Plain (n + 12) [] = some ([], 0) := by
  repeat (first
    | with_reducible exact v_end
    | ((with_reducible refine v_fin ?_); (exact rfl))
    | ((with_reducible refine v_w ?_ ?_); · first | omega | decide | (dsimp only; omega) | (simp; done) | (simp; omega))
    | ((with_reducible refine v_wu ?_ ?_); · first | omega | decide | (dsimp only; omega) | (simp; done) | (simp; omega))
    | ((with_reducible refine v_T ?_ ?_); · first | omega | decide | (dsimp only; omega) | (simp; done) | (simp; omega) | (exact of_decide_eq_true rfl))
    | ((with_reducible refine v_F ?_ ?_); · first | omega | decide | (dsimp only; omega) | (simp; done) | (simp; omega) | (exact of_decide_eq_true rfl))
    | with_reducible refine v_nT ?_
    | with_reducible refine v_nF ?_
    | with_reducible refine v_cT ?_
    | with_reducible refine v_cF ?_
    | ((with_reducible refine v_as ?_ ?_); · first | omega | decide | (dsimp only; omega) | (simp; done) | (simp; omega) | (exact of_decide_eq_true rfl))
    | ((with_reducible apply v_ix); (first | omega | decide | (simp; done) | (dsimp only [List.length_cons, List.length_nil]; omega)); (exact rfl))
    | with_reducible refine v_p2 ?_
    | with_reducible refine v_selb ?_
    | with_reducible refine v_sele ?_
    | with_reducible refine v_selrl ?_
    | with_reducible refine v_selrr ?_
    | ((with_reducible refine v_ifT ?_ ?_); · first | omega | decide | (dsimp only; omega))
    | ((with_reducible refine v_ifF ?_ ?_); · first | omega | decide | (dsimp only; omega))
    | with_reducible refine v_brk ?_
    | with_reducible refine v_esc ?_
    | dsimp only [List.nil_append, List.cons_append]
    | with_reducible apply v_bi
    | rw [d_voucher_Plain]
    | rw [d_voucher_Plain_L0]
    | rw [d_voucher_Plain_1]
    | rw [d_voucher_is]
    | rw [d_voucher_in]
    | rw [d_voucher_Plain_L1]
    | rw [d_voucher_Plain_L2]
    | rw [d_voucher_Plain_L3]
    | rw [d_voucher_Plain_2]
    | rw [d_cmp_Compare_int]
    | rw [d_cmp_isNaN_int]
    | rw [d_voucher_Plain_L4]
    | rw [d_voucher_Plain_L5]
    | rw [d_voucher_Plain_L6]
    | rw [d_voucher_Plain_L7]
    | rw [d_voucher_Plain_3]
    | with_reducible refine v_bnd ?_)
theorem ckA {a c : Int} (sa : Sm a) (sc : Sm c) (ha : a ≠ 0) (hc : c ≠ 0) (hs : a + c = 0) : d_voucher_Check (n + 14) [⟨0, a⟩, ⟨1, c⟩] = some true := by
  repeat (first
    | with_reducible exact v_end
    | ((with_reducible refine v_fin ?_); (exact rfl))
    | ((with_reducible refine v_w ?_ ?_); · first | omega | decide | (dsimp only; omega) | (simp; done) | (simp; omega))
    | ((with_reducible refine v_wu ?_ ?_); · first | omega | decide | (dsimp only; omega) | (simp; done) | (simp; omega))
    | ((with_reducible refine v_T ?_ ?_); · first | omega | decide | (dsimp only; omega) | (simp; done) | (simp; omega) | (exact of_decide_eq_true rfl))
    | ((with_reducible refine v_F ?_ ?_); · first | omega | decide | (dsimp only; omega) | (simp; done) | (simp; omega) | (exact of_decide_eq_true rfl))
    | with_reducible refine v_nT ?_
    | with_reducible refine v_nF ?_
    | with_reducible refine v_cT ?_
    | with_reducible refine v_cF ?_
    | ((with_reducible refine v_as ?_ ?_); · first | omega | decide | (dsimp only; omega) | (simp; done) | (simp; omega) | (exact of_decide_eq_true rfl))
    | ((with_reducible apply v_ix); (first | omega | decide | (simp; done) | (dsimp only [List.length_cons, List.length_nil]; omega)); (exact rfl))
    | with_reducible refine v_p2 ?_
    | with_reducible refine v_selb ?_
    | with_reducible refine v_sele ?_
    | with_reducible refine v_selrl ?_
    | with_reducible refine v_selrr ?_
    | ((with_reducible refine v_ifT ?_ ?_); · first | omega | decide | (dsimp only; omega))
    | ((with_reducible refine v_ifF ?_ ?_); · first | omega | decide | (dsimp only; omega))
    | with_reducible refine v_bi (sum2 (by first | omega | (dsimp only; omega) | decide | (simp; omega)) (by first | omega | (dsimp only; omega) | decide | (simp; omega)) (by first | omega | (dsimp only; omega) | decide | (simp; omega))) ?_
    | with_reducible refine v_brk ?_
    | with_reducible refine v_esc ?_
    | dsimp only [List.nil_append, List.cons_append]
    | with_reducible apply v_bi
    | rw [d_voucher_Check]
    | rw [d_voucher_Check_L0]
    | rw [d_voucher_Check_1]
    | rw [d_voucher_is]
    | rw [d_voucher_in]
    | rw [d_voucher_sum]
    | rw [d_voucher_sum_L0]
    | with_reducible refine v_bnd ?_)
theorem glA {bal : List Int} {b0 b1 a c : Int} (hl : bal.length = 17) (h0 : bal[(0 : Int).toNat]? = some b0) (s0 : Sm b0 ∧ Sm a ∧ Sm (b0 + a)) (h1 : bal[(1 : Int).toNat]? = some b1) (s1 : Sm b1 ∧ Sm c ∧ Sm (b1 + c)) (ha : a ≠ 0) (hc : c ≠ 0) (hs : a + c = 0) : d_gl_Post (n + 14) bal [⟨0, a⟩, ⟨1, c⟩] = some (((bal).set (0 : Int).toNat (b0 + a)).set (1 : Int).toNat (b1 + c), 0) := by
  have i0 := h0
  have i1 : ((bal).set (0 : Int).toNat (b0 + a))[(1 : Int).toNat]? = some b1 := by rw [List.getElem?_set_ne (by decide)]; exact h1
  have hp := ppA (n := n + 2) s0.2.1 s1.2.1 ha hc
  have hk := ckA (n := n) s0.2.1 s1.2.1 ha hc hs
  unfold d_gl_Post
  repeat (first
    | with_reducible exact v_end
    | ((with_reducible refine v_fin ?_); (exact rfl))
    | ((with_reducible refine v_w ?_ ?_); · first | omega | decide | (dsimp only; omega) | (simp; done) | (simp; omega))
    | ((with_reducible refine v_wu ?_ ?_); · first | omega | decide | (dsimp only; omega) | (simp; done) | (simp; omega))
    | ((with_reducible refine v_T ?_ ?_); · first | omega | decide | (dsimp only; omega) | (simp; done) | (simp; omega) | (exact of_decide_eq_true rfl))
    | ((with_reducible refine v_F ?_ ?_); · first | omega | decide | (dsimp only; omega) | (simp; done) | (simp; omega) | (exact of_decide_eq_true rfl))
    | with_reducible refine v_nT ?_
    | with_reducible refine v_nF ?_
    | with_reducible refine v_cT ?_
    | with_reducible refine v_cF ?_
    | ((with_reducible refine v_as ?_ ?_); · first | omega | decide | (dsimp only; omega) | (simp; done) | (simp; omega) | (exact of_decide_eq_true rfl))
    | with_reducible refine v_ix (by decide) i0 ?_
    | with_reducible refine v_ix (by decide) i1 ?_
    | ((with_reducible apply v_ix); (first | omega | decide | (simp; done) | (dsimp only [List.length_cons, List.length_nil]; omega)); (exact rfl))
    | with_reducible refine v_p2 ?_
    | with_reducible refine v_selb ?_
    | with_reducible refine v_sele ?_
    | with_reducible refine v_selrl ?_
    | with_reducible refine v_selrr ?_
    | ((with_reducible refine v_ifT ?_ ?_); · first | omega | decide | (dsimp only; omega))
    | ((with_reducible refine v_ifF ?_ ?_); · first | omega | decide | (dsimp only; omega))
    | with_reducible refine v_bi (hp) ?_
    | with_reducible refine v_bi (hk) ?_
    | with_reducible refine v_bi (add_v s0.1 s0.2.1 s0.2.2) ?_
    | with_reducible refine v_bi (add_v s1.1 s1.2.1 s1.2.2) ?_
    | with_reducible refine v_brk ?_
    | with_reducible refine v_esc ?_
    | dsimp only [List.nil_append, List.cons_append]
    | with_reducible apply v_bi
    | rw [d_gl_Post_L0]
    | with_reducible refine v_bnd ?_)
theorem glB {bal : List Int} (hl : bal.length = 17) : d_gl_Post (n + 14) bal [] = some (bal, 0) := by
  have hp := ppB (n := n + 2)
  unfold d_gl_Post
  repeat (first
    | with_reducible exact v_end
    | ((with_reducible refine v_fin ?_); (exact rfl))
    | ((with_reducible refine v_w ?_ ?_); · first | omega | decide | (dsimp only; omega) | (simp; done) | (simp; omega))
    | ((with_reducible refine v_wu ?_ ?_); · first | omega | decide | (dsimp only; omega) | (simp; done) | (simp; omega))
    | ((with_reducible refine v_T ?_ ?_); · first | omega | decide | (dsimp only; omega) | (simp; done) | (simp; omega) | (exact of_decide_eq_true rfl))
    | ((with_reducible refine v_F ?_ ?_); · first | omega | decide | (dsimp only; omega) | (simp; done) | (simp; omega) | (exact of_decide_eq_true rfl))
    | with_reducible refine v_nT ?_
    | with_reducible refine v_nF ?_
    | with_reducible refine v_cT ?_
    | with_reducible refine v_cF ?_
    | ((with_reducible refine v_as ?_ ?_); · first | omega | decide | (dsimp only; omega) | (simp; done) | (simp; omega) | (exact of_decide_eq_true rfl))
    | ((with_reducible apply v_ix); (first | omega | decide | (simp; done) | (dsimp only [List.length_cons, List.length_nil]; omega)); (exact rfl))
    | with_reducible refine v_p2 ?_
    | with_reducible refine v_selb ?_
    | with_reducible refine v_sele ?_
    | with_reducible refine v_selrl ?_
    | with_reducible refine v_selrr ?_
    | ((with_reducible refine v_ifT ?_ ?_); · first | omega | decide | (dsimp only; omega))
    | ((with_reducible refine v_ifF ?_ ?_); · first | omega | decide | (dsimp only; omega))
    | with_reducible refine v_bi (hp) ?_
    | with_reducible refine v_brk ?_
    | with_reducible refine v_esc ?_
    | dsimp only [List.nil_append, List.cons_append]
    | with_reducible apply v_bi
    | rw [d_gl_Post_L0]
    | with_reducible refine v_bnd ?_)
section
variable {s : GState} {e i : Int} {x : GEnt} {ms cs : List Int} {m c : Int}
theorem receive_v {s1 s2 s3 : GState} {k q v carried above : Int} (h1 : d_stock_Ready s e i = some 0) (hr : s.Receipts.length < 40)
    (hb : d_stock_Bring n s e i k ⟨q, v, 0⟩ = some (s1, carried, above, 0)) (hv : -9223372036854775807 ≤ v ∧ v ≤ 9223372036854775807)
    (hp : d_stock_Post n s1 e [⟨0, carried⟩, ⟨6, above⟩, ⟨1, 0 - v⟩] = some (s2, 0)) (ht : d_stock_Turn s2 e i ⟨0, carried, 0, 0, 0, 0, 0, 0, 0, 0, 0⟩ = some (s3, 0)) (hl : s3.Receipts.length ≤ 1000) :
    d_receive_Do n s ⟨1, e, i, k, 0, q, v, 0, []⟩ = some (⟨s3.Master, s3.Ents, s3.Receipts ++ [⟨e, i, k, q, v, q, v, 0⟩], s3.Sales, s3.Transits, s3.Done⟩, 0) := by
  unfold d_receive_Do
  repeat (first
    | with_reducible exact v_end
    | ((with_reducible refine v_fin ?_); (exact rfl))
    | ((with_reducible refine v_w ?_ ?_); · first | omega | decide | (dsimp only; omega) | (simp; done) | (simp; omega))
    | ((with_reducible refine v_wu ?_ ?_); · first | omega | decide | (dsimp only; omega) | (simp; done) | (simp; omega))
    | ((with_reducible refine v_T ?_ ?_); · first | omega | decide | (dsimp only; omega) | (simp; done) | (simp; omega) | (exact of_decide_eq_true rfl))
    | ((with_reducible refine v_F ?_ ?_); · first | omega | decide | (dsimp only; omega) | (simp; done) | (simp; omega) | (exact of_decide_eq_true rfl))
    | with_reducible refine v_nT ?_
    | with_reducible refine v_nF ?_
    | with_reducible refine v_cT ?_
    | with_reducible refine v_cF ?_
    | ((with_reducible refine v_as ?_ ?_); · first | omega | decide | (dsimp only; omega) | (simp; done) | (simp; omega) | (exact of_decide_eq_true rfl))
    | ((with_reducible apply v_ix); (first | omega | decide | (simp; done) | (dsimp only [List.length_cons, List.length_nil]; omega)); (exact rfl))
    | with_reducible refine v_p2 ?_
    | with_reducible refine v_selb ?_
    | with_reducible refine v_sele ?_
    | with_reducible refine v_selrl ?_
    | with_reducible refine v_selrr ?_
    | ((with_reducible refine v_ifT ?_ ?_); · first | omega | decide | (dsimp only; omega))
    | ((with_reducible refine v_ifF ?_ ?_); · first | omega | decide | (dsimp only; omega))
    | with_reducible refine v_bi (h1) ?_
    | with_reducible refine v_bi (hb) ?_
    | with_reducible refine v_bi (hp) ?_
    | with_reducible refine v_bi (ht) ?_
    | with_reducible refine v_brk ?_
    | with_reducible refine v_esc ?_
    | dsimp only [List.nil_append, List.cons_append]
    | with_reducible apply v_bi
    | with_reducible refine v_bnd ?_)
end
end Go.Pv
