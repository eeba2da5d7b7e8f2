/- Plain laws: vouchers in the ledger, receipts. -/
import Derived.Test.YtkinibckmebacaaGreatC43
set_option linter.unusedSimpArgs false
set_option linter.unusedVariables false
namespace Go.Pv
open Go.Proofs
set_option maxRecDepth 100000
set_option maxHeartbeats 400000
variable {n : Nat}
theorem plA {a b c : Int} (sa : Sm a) (sb : Sm b) (sc : Sm c) (ha : a ≠ 0) (hb : b = 0) (hc : c ≠ 0) : d_voucher_Plain (n + 12) [⟨0, a⟩, ⟨6, b⟩, ⟨1, c⟩] = some ([⟨0, a⟩, ⟨1, c⟩], 0) := by
  repeat (first
    | with_reducible exact v_end
    | ((with_reducible refine v_fin ?_); (exact rfl))
    | ((with_reducible refine v_w ?_ ?_); · first | omega | decide | (dsimp only; omega) | (simp; done) | (simp; omega))
    | ((with_reducible refine v_wu ?_ ?_); · first | omega | decide | (dsimp only; omega) | (simp; done) | (simp; omega))
    | ((with_reducible refine v_T ?_ ?_); · first | omega | decide | (dsimp only; omega) | (simp; done) | (simp; omega) | (exact of_decide_eq_true rfl))
    | ((with_reducible refine v_F ?_ ?_); · first | omega | decide | (dsimp only; omega) | (simp; done) | (simp; omega) | (exact of_decide_eq_true rfl))
    | with_reducible refine v_nT ?_
    | with_reducible refine v_nF ?_
    | with_reducible refine v_cT ?_
    | with_reducible refine v_cF ?_
    | ((with_reducible refine v_as ?_ ?_); · first | omega | decide | (dsimp only; omega) | (simp; done) | (simp; omega) | (exact of_decide_eq_true rfl))
    | ((with_reducible apply v_ix); (first | omega | decide | (simp; done) | (dsimp only [List.length_cons, List.length_nil]; omega)); (exact rfl))
    | with_reducible refine v_p2 ?_
    | with_reducible refine v_selb ?_
    | with_reducible refine v_sele ?_
    | with_reducible refine v_selrl ?_
    | with_reducible refine v_selrr ?_
    | ((with_reducible refine v_ifT ?_ ?_); · first | omega | decide | (dsimp only; omega))
    | ((with_reducible refine v_ifF ?_ ?_); · first | omega | decide | (dsimp only; omega))
    | with_reducible refine v_brk ?_
    | with_reducible refine v_esc ?_
    | dsimp only [List.nil_append, List.cons_append]
    | with_reducible apply v_bi
    | rw [d_voucher_Plain]
    | rw [d_voucher_Plain_L0]
    | rw [d_voucher_Plain_1]
    | rw [d_voucher_is]
    | rw [d_voucher_in]
    | rw [d_voucher_Plain_L1]
    | rw [d_voucher_Plain_L2]
    | rw [d_voucher_Plain_L3]
    | rw [d_voucher_Plain_2]
    | rw [d_cmp_Compare_int]
    | rw [d_cmp_isNaN_int]
    | rw [d_voucher_Plain_L4]
    | rw [d_voucher_Plain_L5]
    | rw [d_voucher_Plain_L6]
    | rw [d_voucher_Plain_L7]
    | rw [d_voucher_Plain_3]
    | with_reducible refine v_bnd ?_)
theorem plB {a b c : Int} (sa : Sm a) (sb : Sm b) (sc : Sm c) (ha : a = 0) (hb : b = 0) (hc : c = 0) : d_voucher_Plain (n + 12) [⟨0, a⟩, ⟨6, b⟩, ⟨1, c⟩] = some ([], 0) := by
  repeat (first
    | with_reducible exact v_end
    | ((with_reducible refine v_fin ?_); (exact rfl))
    | ((with_reducible refine v_w ?_ ?_); · first | omega | decide | (dsimp only; omega) | (simp; done) | (simp; omega))
    | ((with_reducible refine v_wu ?_ ?_); · first | omega | decide | (dsimp only; omega) | (simp; done) | (simp; omega))
    | ((with_reducible refine v_T ?_ ?_); · first | omega | decide | (dsimp only; omega) | (simp; done) | (simp; omega) | (exact of_decide_eq_true rfl))
    | ((with_reducible refine v_F ?_ ?_); · first | omega | decide | (dsimp only; omega) | (simp; done) | (simp; omega) | (exact of_decide_eq_true rfl))
    | with_reducible refine v_nT ?_
    | with_reducible refine v_nF ?_
    | with_reducible refine v_cT ?_
    | with_reducible refine v_cF ?_
    | ((with_reducible refine v_as ?_ ?_); · first | omega | decide | (dsimp only; omega) | (simp; done) | (simp; omega) | (exact of_decide_eq_true rfl))
    | ((with_reducible apply v_ix); (first | omega | decide | (simp; done) | (dsimp only [List.length_cons, List.length_nil]; omega)); (exact rfl))
    | with_reducible refine v_p2 ?_
    | with_reducible refine v_selb ?_
    | with_reducible refine v_sele ?_
    | with_reducible refine v_selrl ?_
    | with_reducible refine v_selrr ?_
    | ((with_reducible refine v_ifT ?_ ?_); · first | omega | decide | (dsimp only; omega))
    | ((with_reducible refine v_ifF ?_ ?_); · first | omega | decide | (dsimp only; omega))
    | with_reducible refine v_brk ?_
    | with_reducible refine v_esc ?_
    | dsimp only [List.nil_append, List.cons_append]
    | with_reducible apply v_bi
    | rw [d_voucher_Plain]
    | rw [d_voucher_Plain_L0]
    | rw [d_voucher_Plain_1]
    | rw [d_voucher_is]
    | rw [d_voucher_in]
    | rw [d_voucher_Plain_L1]
    | rw [d_voucher_Plain_L2]
    | rw [d_voucher_Plain_L3]
    | rw [d_voucher_Plain_2]
    | rw [d_cmp_Compare_int]
    | rw [d_cmp_isNaN_int]
    | rw [d_voucher_Plain_L4]
    | rw [d_voucher_Plain_L5]
    | rw [d_voucher_Plain_L6]
    | rw [d_voucher_Plain_L7]
    | rw [d_voucher_Plain_3]
    | with_reducible refine v_bnd ?_)
theorem ppA {a c : Int} (sa : Sm a) (sc : Sm c) (ha : a ≠ 0) (hc : c ≠ 0) : d_voucher_Plain (n + 12) [⟨0, a⟩, ⟨1, c⟩] = some ([⟨0, a⟩, ⟨1, c⟩], 0) := by
  repeat (first
    | with_reducible exact v_end
    | ((with_reducible refine v_fin ?_); (exact rfl))
    | ((with_reducible refine v_w ?_ ?_); · first | omega | decide | (dsimp only; omega) | (simp; done) | (simp; omega))
    | ((with_reducible refine v_wu ?_ ?_); · first | omega | decide | (dsimp only; omega) | (simp; done) | (simp; omega))
    | ((with_reducible refine v_T ?_ ?_); · first | omega | decide | (dsimp only; omega) | (simp; done) | (simp; omega) | (exact of_decide_eq_true rfl))
    | ((with_reducible refine v_F ?_ ?_); · first | omega | decide | (dsimp only; omega) | (simp; done) | (simp; omega) | (exact of_decide_eq_true rfl))
    | with_reducible refine v_nT ?_
    | with_reducible refine v_nF ?_
    | with_reducible refine v_cT ?_
    | with_reducible refine v_cF ?_
    | ((with_reducible refine v_as ?_ ?_); · first | omega | decide | (dsimp only; omega) | (simp; done) | (simp; omega) | (exact of_decide_eq_true rfl))
    | ((with_reducible apply v_ix); (first | omega | decide | (simp; done) | (dsimp only [List.length_cons, List.length_nil]; omega)); (exact rfl))
    | with_reducible refine v_p2 ?_
    | with_reducible refine v_selb ?_
    | with_reducible refine v_sele ?_
    | with_reducible refine v_selrl ?_
    | with_reducible refine v_selrr ?_
    | ((with_reducible refine v_ifT ?_ ?_); · first | omega | decide | (dsimp only; omega))
    | ((with_reducible refine v_ifF ?_ ?_); · first | omega | decide | (dsimp only; omega))
    | with_reducible refine v_brk ?_
    | with_reducible refine v_esc ?_
    | dsimp only [List.nil_append, List.cons_append]
    | with_reducible apply v_bi
    | rw [d_voucher_Plain]
    | rw [d_voucher_Plain_L0]
    | rw [d_voucher_Plain_1]
    | rw [d_voucher_is]
    | rw [d_voucher_in]
    | rw [d_voucher_Plain_L1]
    | rw [d_voucher_Plain_L2]
    | rw [d_voucher_Plain_L3]
    | rw [d_voucher_Plain_2]
    | rw [d_cmp_Compare_int]
    | rw [d_cmp_isNaN_int]
    | rw [d_voucher_Plain_L4]
    | rw [d_voucher_Plain_L5]
    | rw [d_voucher_Plain_L6]
    | rw [d_voucher_Plain_L7]
    | rw [d_voucher_Plain_3]
    | with_reducible refine v_bnd ?_)
theorem ppB : d_voucher_Plain (n + 12) [] = some ([], 0) := by
  repeat (first
    | with_reducible exact v_end
    | ((with_reducible refine v_fin ?_); (exact rfl))
    | ((with_reducible refine v_w ?_ ?_); · first | omega | decide | (dsimp only; omega) | (simp; done) | (simp; omega))
    | ((with_reducible refine v_wu ?_ ?_); · first | omega | decide | (dsimp only; omega) | (simp; done) | (simp; omega))
    | ((with_reducible refine v_T ?_ ?_); · first | omega | decide | (dsimp only; omega) | (simp; done) | (simp; omega) | (exact of_decide_eq_true rfl))
    | ((with_reducible refine v_F ?_ ?_); · first | omega | decide | (dsimp only; omega) | (simp; done) | (simp; omega) | (exact of_decide_eq_true rfl))
    | with_reducible refine v_nT ?_
    | with_reducible refine v_nF ?_
    | with_reducible refine v_cT ?_
    | with_reducible refine v_cF ?_
    | ((with_reducible refine v_as ?_ ?_); · first | omega | decide | (dsimp only; omega) | (simp; done) | (simp; omega) | (exact of_decide_eq_true rfl))
    | ((with_reducible apply v_ix); (first | omega | decide | (simp; done) | (dsimp only [List.length_cons, List.length_nil]; omega)); (exact rfl))
    | with_reducible refine v_p2 ?_
    | with_reducible refine v_selb ?_
    | with_reducible refine v_sele ?_
    | with_reducible refine v_selrl ?_
    | with_reducible refine v_selrr ?_
    | ((with_reducible refine v_ifT ?_ ?_); · first | omega | decide | (dsimp only; omega))
    | ((with_reducible refine v_ifF ?_ ?_); · first | omega | decide | (dsimp only; omega))
    | with_reducible refine v_brk ?_
    | with_reducible refine v_esc ?_
    | dsimp only [List.nil_append, List.cons_append]
    | with_reducible apply v_bi
    | rw [d_voucher_Plain]
    | rw [d_voucher_Plain_L0]
    | rw [d_voucher_Plain_1]
    | rw [d_voucher_is]
    | rw [d_voucher_in]
    | rw [d_voucher_Plain_L1]
    | rw [d_voucher_Plain_L2]
    | rw [d_voucher_Plain_L3]
    | rw [d_voucher_Plain_2]
    | rw [d_cmp_Compare_int]
    | rw [d_cmp_isNaN_int]
    | rw [d_voucher_Plain_L4]
    | rw [d_voucher_Plain_L5]
    | rw [d_voucher_Plain_L6]
    | rw [d_voucher_Plain_L7]
    | rw [d_voucher_Plain_3]
    | with_reducible refine v_bnd ?_)
theorem ckA {a c : Int} (sa : Sm a) (sc : Sm c) (ha : a ≠ 0) (hc : c ≠ 0) (hs : a + c = 0) : d_voucher_Check (n + 14) [⟨0, a⟩, ⟨1, c⟩] = some true := by
  repeat (first
    | with_reducible exact v_end
    | ((with_reducible refine v_fin ?_); (exact rfl))
    | ((with_reducible refine v_w ?_ ?_); · first | omega | decide | (dsimp only; omega) | (simp; done) | (simp; omega))
    | ((with_reducible refine v_wu ?_ ?_); · first | omega | decide | (dsimp only; omega) | (simp; done) | (simp; omega))
    | ((with_reducible refine v_T ?_ ?_); · first | omega | decide | (dsimp only; omega) | (simp; done) | (simp; omega) | (exact of_decide_eq_true rfl))
    | ((with_reducible refine v_F ?_ ?_); · first | omega | decide | (dsimp only; omega) | (simp; done) | (simp; omega) | (exact of_decide_eq_true rfl))
    | with_reducible refine v_nT ?_
    | with_reducible refine v_nF ?_
    | with_reducible refine v_cT ?_
    | with_reducible refine v_cF ?_
    | ((with_reducible refine v_as ?_ ?_); · first | omega | decide | (dsimp only; omega) | (simp; done) | (simp; omega) | (exact of_decide_eq_true rfl))
    | ((with_reducible apply v_ix); (first | omega | decide | (simp; done) | (dsimp only [List.length_cons, List.length_nil]; omega)); (exact rfl))
    | with_reducible refine v_p2 ?_
    | with_reducible refine v_selb ?_
    | with_reducible refine v_sele ?_
    | with_reducible refine v_selrl ?_
    | with_reducible refine v_selrr ?_
    | ((with_reducible refine v_ifT ?_ ?_); · first | omega | decide | (dsimp only; omega))
    | ((with_reducible refine v_ifF ?_ ?_); · first | omega | decide | (dsimp only; omega))
    | with_reducible refine v_bi (sum2 (by first | omega | (dsimp only; omega) | decide | (simp; omega)) (by first | omega | (dsimp only; omega) | decide | (simp; omega)) (by first | omega | (dsimp only; omega) | decide | (simp; omega))) ?_
    | with_reducible refine v_brk ?_
    | with_reducible refine v_esc ?_
    | dsimp only [List.nil_append, List.cons_append]
    | with_reducible apply v_bi
    | rw [d_voucher_Check]
    | rw [d_voucher_Check_L0]
    | rw [d_voucher_Check_1]
    | rw [d_voucher_is]
    | rw [d_voucher_in]
    | rw [d_voucher_sum]
    | rw [d_voucher_sum_L0]
    | with_reducible refine v_bnd ?_)
theorem glA {bal : List Int} {b0 b1 a c : Int} (hl : bal.length = 17) (h0 : bal[(0 : Int).toNat]? = some b0) (s0 : Sm b0 ∧ Sm a ∧ Sm (b0 + a)) (h1 : bal[(1 : Int).toNat]? = some b1) (s1 : Sm b1 ∧ Sm c ∧ Sm (b1 + c)) (ha : a ≠ 0) (hc : c ≠ 0) (hs : a + c = 0) : d_gl_Post (n + 14) bal [⟨0, a⟩, ⟨1, c⟩] = some (((bal).set (0 : Int).toNat (b0 + a)).set (1 : Int).toNat (b1 + c), 0) := by
  have i0 := h0
  have i1 : ((bal).set (0 : Int).toNat (b0 + a))[(1 : Int).toNat]? = some b1 := by rw [List.getElem?_set_ne (by decide)]; exact h1
  have hp := ppA (n := n + 2) s0.2.1 s1.2.1 ha hc
  have hk := ckA (n := n) s0.2.1 s1.2.1 ha hc hs
  unfold d_gl_Post
  repeat (first
    | with_reducible exact v_end
    | ((with_reducible refine v_fin ?_); (exact rfl))
    | ((with_reducible refine v_w ?_ ?_); · first | omega | decide | (dsimp only; omega) | (simp; done) | (simp; omega))
    | ((with_reducible refine v_wu ?_ ?_); · first | omega | decide | (dsimp only; omega) | (simp; done) | (simp; omega))
    | ((with_reducible refine v_T ?_ ?_); · first | omega | decide | (dsimp only; omega) | (simp; done) | (simp; omega) | (exact of_decide_eq_true rfl))
    | ((with_reducible refine v_F ?_ ?_); · first | omega | decide | (dsimp only; omega) | (simp; done) | (simp; omega) | (exact of_decide_eq_true rfl))
    | with_reducible refine v_nT ?_
    | with_reducible refine v_nF ?_
    | with_reducible refine v_cT ?_
    | with_reducible refine v_cF ?_
    | ((with_reducible refine v_as ?_ ?_); · first | omega | decide | (dsimp only; omega) | (simp; done) | (simp; omega) | (exact of_decide_eq_true rfl))
    | with_reducible refine v_ix (by decide) i0 ?_
    | with_reducible refine v_ix (by decide) i1 ?_
    | ((with_reducible apply v_ix); (first | omega | decide | (simp; done) | (dsimp only [List.length_cons, List.length_nil]; omega)); (exact rfl))
    | with_reducible refine v_p2 ?_
    | with_reducible refine v_selb ?_
    | with_reducible refine v_sele ?_
    | with_reducible refine v_selrl ?_
    | with_reducible refine v_selrr ?_
    | ((with_reducible refine v_ifT ?_ ?_); · first | omega | decide | (dsimp only; omega))
    | ((with_reducible refine v_ifF ?_ ?_); · first | omega | decide | (dsimp only; omega))
    | with_reducible refine v_bi (hp) ?_
    | with_reducible refine v_bi (hk) ?_
    | with_reducible refine v_bi (add_v s0.1 s0.2.1 s0.2.2) ?_
    | with_reducible refine v_bi (add_v s1.1 s1.2.1 s1.2.2) ?_
    | with_reducible refine v_brk ?_
    | with_reducible refine v_esc ?_
    | dsimp only [List.nil_append, List.cons_append]
    | with_reducible apply v_bi
    | rw [d_gl_Post_L0]
    | with_reducible refine v_bnd ?_)
theorem glB {bal : List Int} (hl : bal.length = 17) : d_gl_Post (n + 14) bal [] = some (bal, 0) := by
  have hp := ppB (n := n + 2)
  unfold d_gl_Post
  repeat (first
    | with_reducible exact v_end
    | ((with_reducible refine v_fin ?_); (exact rfl))
    | ((with_reducible refine v_w ?_ ?_); · first | omega | decide | (dsimp only; omega) | (simp; done) | (simp; omega))
    | ((with_reducible refine v_wu ?_ ?_); · first | omega | decide | (dsimp only; omega) | (simp; done) | (simp; omega))
    | ((with_reducible refine v_T ?_ ?_); · first | omega | decide | (dsimp only; omega) | (simp; done) | (simp; omega) | (exact of_decide_eq_true rfl))
    | ((with_reducible refine v_F ?_ ?_); · first | omega | decide | (dsimp only; omega) | (simp; done) | (simp; omega) | (exact of_decide_eq_true rfl))
    | with_reducible refine v_nT ?_
    | with_reducible refine v_nF ?_
    | with_reducible refine v_cT ?_
    | with_reducible refine v_cF ?_
    | ((with_reducible refine v_as ?_ ?_); · first | omega | decide | (dsimp only; omega) | (simp; done) | (simp; omega) | (exact of_decide_eq_true rfl))
    | ((with_reducible apply v_ix); (first | omega | decide | (simp; done) | (dsimp only [List.length_cons, List.length_nil]; omega)); (exact rfl))
    | with_reducible refine v_p2 ?_
    | with_reducible refine v_selb ?_
    | with_reducible refine v_sele ?_
    | with_reducible refine v_selrl ?_
    | with_reducible refine v_selrr ?_
    | ((with_reducible refine v_ifT ?_ ?_); · first | omega | decide | (dsimp only; omega))
    | ((with_reducible refine v_ifF ?_ ?_); · first | omega | decide | (dsimp only; omega))
    | with_reducible refine v_bi (hp) ?_
    | with_reducible refine v_brk ?_
    | with_reducible refine v_esc ?_
    | dsimp only [List.nil_append, List.cons_append]
    | with_reducible apply v_bi
    | rw [d_gl_Post_L0]
    | with_reducible refine v_bnd ?_)
section
variable {s : GState} {e i : Int} {x : GEnt} {ms cs : List Int} {m c : Int}
theorem receive_v {s1 s2 s3 : GState} {k q v carried above : Int} (h1 : d_stock_Ready s e i = some 0) (hr : s.Receipts.length < 40)
    (hb : d_stock_Bring n s e i k ⟨q, v, 0⟩ = some (s1, carried, above, 0)) (hv : -9223372036854775807 ≤ v ∧ v ≤ 9223372036854775807)
    (hp : d_stock_Post n s1 e [⟨0, carried⟩, ⟨6, above⟩, ⟨1, 0 - v⟩] = some (s2, 0)) (ht : d_stock_Turn s2 e i ⟨0, carried, 0, 0, 0, 0, 0, 0, 0, 0, 0⟩ = some (s3, 0)) (hl : s3.Receipts.length ≤ 1000) :
    d_receive_Do n s ⟨1, e, i, k, 0, q, v, 0, []⟩ = some (⟨s3.Master, s3.Ents, s3.Receipts ++ [⟨e, i, k, q, v, q, v, 0⟩], s3.Sales, s3.Transits, s3.Done⟩, 0) := by
  unfold d_receive_Do
  repeat (first
    | with_reducible exact v_end
    | ((with_reducible refine v_fin ?_); (exact rfl))
    | ((with_reducible refine v_w ?_ ?_); · first | omega | decide | (dsimp only; omega) | (simp; done) | (simp; omega))
    | ((with_reducible refine v_wu ?_ ?_); · first | omega | decide | (dsimp only; omega) | (simp; done) | (simp; omega))
    | ((with_reducible refine v_T ?_ ?_); · first | omega | decide | (dsimp only; omega) | (simp; done) | (simp; omega) | (exact of_decide_eq_true rfl))
    | ((with_reducible refine v_F ?_ ?_); · first | omega | decide | (dsimp only; omega) | (simp; done) | (simp; omega) | (exact of_decide_eq_true rfl))
    | with_reducible refine v_nT ?_
    | with_reducible refine v_nF ?_
    | with_reducible refine v_cT ?_
    | with_reducible refine v_cF ?_
    | ((with_reducible refine v_as ?_ ?_); · first | omega | decide | (dsimp only; omega) | (simp; done) | (simp; omega) | (exact of_decide_eq_true rfl))
    | ((with_reducible apply v_ix); (first | omega | decide | (simp; done) | (dsimp only [List.length_cons, List.length_nil]; omega)); (exact rfl))
    | with_reducible refine v_p2 ?_
    | with_reducible refine v_selb ?_
    | with_reducible refine v_sele ?_
    | with_reducible refine v_selrl ?_
    | with_reducible refine v_selrr ?_
    | ((with_reducible refine v_ifT ?_ ?_); · first | omega | decide | (dsimp only; omega))
    | ((with_reducible refine v_ifF ?_ ?_); · first | omega | decide | (dsimp only; omega))
    | with_reducible refine v_bi (h1) ?_
    | with_reducible refine v_bi (hb) ?_
    | with_reducible refine v_bi (hp) ?_
    | with_reducible refine v_bi (ht) ?_
    | with_reducible refine v_brk ?_
    | with_reducible refine v_esc ?_
    | dsimp only [List.nil_append, List.cons_append]
    | with_reducible apply v_bi
    | with_reducible refine v_bnd ?_)
theorem rthere_v (h : At s e i x ms cs m c) : d_ref14_there s e i = some true := by
  have g1 := ltI h.e0 h.hx
  have g2 := ltI h.e0 h.hm
  have g3 := ltI h.e0 h.hc
  obtain ⟨e0, hx, el, i0, i1, wl, hm, hc, ml, cl, him, hic, pl, rl⟩ := h
  unfold d_ref14_there
  repeat (first
    | with_reducible exact v_end
    | ((with_reducible refine v_fin ?_); (exact rfl))
    | ((with_reducible refine v_w ?_ ?_); · first | omega | decide | (dsimp only; omega) | (simp; done) | (simp; omega))
    | ((with_reducible refine v_wu ?_ ?_); · first | omega | decide | (dsimp only; omega) | (simp; done) | (simp; omega))
    | ((with_reducible refine v_T ?_ ?_); · first | omega | decide | (dsimp only; omega) | (simp; done) | (simp; omega) | (exact of_decide_eq_true rfl))
    | ((with_reducible refine v_F ?_ ?_); · first | omega | decide | (dsimp only; omega) | (simp; done) | (simp; omega) | (exact of_decide_eq_true rfl))
    | with_reducible refine v_nT ?_
    | with_reducible refine v_nF ?_
    | with_reducible refine v_cT ?_
    | with_reducible refine v_cF ?_
    | ((with_reducible refine v_as ?_ ?_); · first | omega | decide | (dsimp only; omega) | (simp; done) | (simp; omega) | (exact of_decide_eq_true rfl))
    | with_reducible refine v_ix e0 hx ?_
    | with_reducible refine v_ix e0 hm ?_
    | with_reducible refine v_ix e0 hc ?_
    | with_reducible refine v_ix i0 him ?_
    | with_reducible refine v_ix i0 hic ?_
    | ((with_reducible apply v_ix); (first | omega | decide | (simp; done) | (dsimp only [List.length_cons, List.length_nil]; omega)); (exact rfl))
    | with_reducible refine v_p2 ?_
    | with_reducible refine v_selb ?_
    | with_reducible refine v_sele ?_
    | with_reducible refine v_selrl ?_
    | with_reducible refine v_selrr ?_
    | ((with_reducible refine v_ifT ?_ ?_); · first | omega | decide | (dsimp only; omega))
    | ((with_reducible refine v_ifF ?_ ?_); · first | omega | decide | (dsimp only; omega))
    | with_reducible refine v_brk ?_
    | with_reducible refine v_esc ?_
    | dsimp only [List.nil_append, List.cons_append]
    | with_reducible apply v_bi
    | rw [d_ref14_to]
    | with_reducible refine v_bnd ?_)
theorem rat_v (h : At s e i x ms cs m c) {k : Int} {p : GPool} (hk : 0 ≤ k ∧ k ≤ 1) (hp : x.Pools[(i * 2 + k).toNat]? = some p) : d_ref14_At s e i k = some p := by
  have h1 := rthere_v h
  have g9 := ltI (by have := h.i0; omega) hp
  have g1 := ltI h.e0 h.hx
  have g2 := ltI h.e0 h.hm
  have g3 := ltI h.e0 h.hc
  obtain ⟨e0, hx, el, i0, i1, wl, hm, hc, ml, cl, him, hic, pl, rl⟩ := h
  unfold d_ref14_At
  repeat (first
    | with_reducible exact v_end
    | ((with_reducible refine v_fin ?_); (exact rfl))
    | ((with_reducible refine v_w ?_ ?_); · first | omega | decide | (dsimp only; omega) | (simp; done) | (simp; omega))
    | ((with_reducible refine v_wu ?_ ?_); · first | omega | decide | (dsimp only; omega) | (simp; done) | (simp; omega))
    | ((with_reducible refine v_T ?_ ?_); · first | omega | decide | (dsimp only; omega) | (simp; done) | (simp; omega) | (exact of_decide_eq_true rfl))
    | ((with_reducible refine v_F ?_ ?_); · first | omega | decide | (dsimp only; omega) | (simp; done) | (simp; omega) | (exact of_decide_eq_true rfl))
    | with_reducible refine v_nT ?_
    | with_reducible refine v_nF ?_
    | with_reducible refine v_cT ?_
    | with_reducible refine v_cF ?_
    | ((with_reducible refine v_as ?_ ?_); · first | omega | decide | (dsimp only; omega) | (simp; done) | (simp; omega) | (exact of_decide_eq_true rfl))
    | with_reducible refine v_ix e0 hx ?_
    | with_reducible refine v_ix e0 hm ?_
    | with_reducible refine v_ix e0 hc ?_
    | with_reducible refine v_ix i0 him ?_
    | with_reducible refine v_ix i0 hic ?_
    | with_reducible refine v_ix (by omega) hp ?_
    | ((with_reducible apply v_ix); (first | omega | decide | (simp; done) | (dsimp only [List.length_cons, List.length_nil]; omega)); (exact rfl))
    | with_reducible refine v_p2 ?_
    | with_reducible refine v_selb ?_
    | with_reducible refine v_sele ?_
    | with_reducible refine v_selrl ?_
    | with_reducible refine v_selrr ?_
    | ((with_reducible refine v_ifT ?_ ?_); · first | omega | decide | (dsimp only; omega))
    | ((with_reducible refine v_ifF ?_ ?_); · first | omega | decide | (dsimp only; omega))
    | with_reducible refine v_bi (h1) ?_
    | with_reducible refine v_brk ?_
    | with_reducible refine v_esc ?_
    | dsimp only [List.nil_append, List.cons_append]
    | with_reducible apply v_bi
    | rw [d_ref14_to]
    | with_reducible refine v_bnd ?_)
theorem rin_v {a : Int} (h : Sm a) : d_ref01_In a = some true := by
  unfold d_ref01_In
  exact v_bi (v_T h.1 (v_cT (v_T h.2 rfl))) rfl
theorem radd_v {a b : Int} (ha : Sm a) (hb : Sm b) (h : Sm (a + b)) : d_ref01_Add a b = some (a + b, 0) := by
  unfold d_ref01_Add
  refine v_bi (a := false) ?_ ?_
  · refine v_bi (rin_v ha) (v_nT (v_cF (v_bi (rin_v hb) (v_nT (v_cF (v_w (by omega) (v_bi (rin_v h) (v_nT rfl))))))))
  · exact v_as rfl (v_w (by omega) rfl)
theorem rsum2 {a b : Int} (ha : Sm a) (hb : Sm b) (h : Sm (a + b)) : d_ref01_Sum (n + 12) [a, b] = some (0 + a + b, 0) := by
  unfold d_ref01_Sum
  repeat (first
    | with_reducible exact v_end
    | ((with_reducible refine v_fin ?_); (exact rfl))
    | ((with_reducible refine v_w ?_ ?_); · first | omega | decide | (dsimp only; omega) | (simp; done) | (simp; omega))
    | ((with_reducible refine v_wu ?_ ?_); · first | omega | decide | (dsimp only; omega) | (simp; done) | (simp; omega))
    | ((with_reducible refine v_T ?_ ?_); · first | omega | decide | (dsimp only; omega) | (simp; done) | (simp; omega) | (exact of_decide_eq_true rfl))
    | ((with_reducible refine v_F ?_ ?_); · first | omega | decide | (dsimp only; omega) | (simp; done) | (simp; omega) | (exact of_decide_eq_true rfl))
    | with_reducible refine v_nT ?_
    | with_reducible refine v_nF ?_
    | with_reducible refine v_cT ?_
    | with_reducible refine v_cF ?_
    | ((with_reducible refine v_as ?_ ?_); · first | omega | decide | (dsimp only; omega) | (simp; done) | (simp; omega) | (exact of_decide_eq_true rfl))
    | ((with_reducible apply v_ix); (first | omega | decide | (simp; done) | (dsimp only [List.length_cons, List.length_nil]; omega)); (exact rfl))
    | with_reducible refine v_p2 ?_
    | with_reducible refine v_selb ?_
    | with_reducible refine v_sele ?_
    | with_reducible refine v_selrl ?_
    | with_reducible refine v_selrr ?_
    | ((with_reducible refine v_ifT ?_ ?_); · first | omega | decide | (dsimp only; omega))
    | ((with_reducible refine v_ifF ?_ ?_); · first | omega | decide | (dsimp only; omega))
    | with_reducible refine v_bi (radd_v (by first | omega | decide | (dsimp only; omega) | (simp; omega)) (by first | omega | decide | (dsimp only; omega) | (simp; omega)) (by first | omega | decide | (dsimp only; omega) | (simp; omega))) ?_
    | with_reducible refine v_brk ?_
    | with_reducible refine v_esc ?_
    | dsimp only [List.nil_append, List.cons_append]
    | with_reducible apply v_bi
    | rw [d_ref01_Sum_L0]
    | with_reducible refine v_bnd ?_)
theorem rtot0 {pd : A3_Int} : d_ref13_Total (n + 12) ⟨[], pd⟩ = some ⟨0, 0, 0⟩ := by
  unfold d_ref13_Total
  repeat (first
    | with_reducible exact v_end
    | ((with_reducible refine v_fin ?_); (exact rfl))
    | ((with_reducible refine v_w ?_ ?_); · first | omega | decide | (dsimp only; omega) | (simp; done) | (simp; omega))
    | ((with_reducible refine v_wu ?_ ?_); · first | omega | decide | (dsimp only; omega) | (simp; done) | (simp; omega))
    | ((with_reducible refine v_T ?_ ?_); · first | omega | decide | (dsimp only; omega) | (simp; done) | (simp; omega) | (exact of_decide_eq_true rfl))
    | ((with_reducible refine v_F ?_ ?_); · first | omega | decide | (dsimp only; omega) | (simp; done) | (simp; omega) | (exact of_decide_eq_true rfl))
    | with_reducible refine v_nT ?_
    | with_reducible refine v_nF ?_
    | with_reducible refine v_cT ?_
    | with_reducible refine v_cF ?_
    | ((with_reducible refine v_as ?_ ?_); · first | omega | decide | (dsimp only; omega) | (simp; done) | (simp; omega) | (exact of_decide_eq_true rfl))
    | ((with_reducible apply v_ix); (first | omega | decide | (simp; done) | (dsimp only [List.length_cons, List.length_nil]; omega)); (exact rfl))
    | with_reducible refine v_p2 ?_
    | with_reducible refine v_selb ?_
    | with_reducible refine v_sele ?_
    | with_reducible refine v_selrl ?_
    | with_reducible refine v_selrr ?_
    | ((with_reducible refine v_ifT ?_ ?_); · first | omega | decide | (dsimp only; omega))
    | ((with_reducible refine v_ifF ?_ ?_); · first | omega | decide | (dsimp only; omega))
    | with_reducible refine v_bi (radd_v (by first | omega | decide | (dsimp only; omega) | (simp; omega)) (by first | omega | decide | (dsimp only; omega) | (simp; omega)) (by first | omega | decide | (dsimp only; omega) | (simp; omega))) ?_
    | with_reducible refine v_brk ?_
    | with_reducible refine v_esc ?_
    | dsimp only [List.nil_append, List.cons_append]
    | with_reducible apply v_bi
    | rw [d_ref09_Total]
    | rw [d_ref09_Total_L0]
    | with_reducible refine v_bnd ?_)
theorem rtot1 {pd : A3_Int} {q v p : Int} (hq : Sm q) (hv : Sm v) (hp : Sm p) : d_ref13_Total (n + 12) ⟨[⟨q, v, p⟩], pd⟩ = some ⟨0 + q, 0 + v, 0 + p⟩ := by
  unfold d_ref13_Total
  repeat (first
    | with_reducible exact v_end
    | ((with_reducible refine v_fin ?_); (exact rfl))
    | ((with_reducible refine v_w ?_ ?_); · first | omega | decide | (dsimp only; omega) | (simp; done) | (simp; omega))
    | ((with_reducible refine v_wu ?_ ?_); · first | omega | decide | (dsimp only; omega) | (simp; done) | (simp; omega))
    | ((with_reducible refine v_T ?_ ?_); · first | omega | decide | (dsimp only; omega) | (simp; done) | (simp; omega) | (exact of_decide_eq_true rfl))
    | ((with_reducible refine v_F ?_ ?_); · first | omega | decide | (dsimp only; omega) | (simp; done) | (simp; omega) | (exact of_decide_eq_true rfl))
    | with_reducible refine v_nT ?_
    | with_reducible refine v_nF ?_
    | with_reducible refine v_cT ?_
    | with_reducible refine v_cF ?_
    | ((with_reducible refine v_as ?_ ?_); · first | omega | decide | (dsimp only; omega) | (simp; done) | (simp; omega) | (exact of_decide_eq_true rfl))
    | ((with_reducible apply v_ix); (first | omega | decide | (simp; done) | (dsimp only [List.length_cons, List.length_nil]; omega)); (exact rfl))
    | with_reducible refine v_p2 ?_
    | with_reducible refine v_selb ?_
    | with_reducible refine v_sele ?_
    | with_reducible refine v_selrl ?_
    | with_reducible refine v_selrr ?_
    | ((with_reducible refine v_ifT ?_ ?_); · first | omega | decide | (dsimp only; omega))
    | ((with_reducible refine v_ifF ?_ ?_); · first | omega | decide | (dsimp only; omega))
    | with_reducible refine v_bi (radd_v (by first | omega | decide | (dsimp only; omega) | (simp; omega)) (by first | omega | decide | (dsimp only; omega) | (simp; omega)) (by first | omega | decide | (dsimp only; omega) | (simp; omega))) ?_
    | with_reducible refine v_brk ?_
    | with_reducible refine v_esc ?_
    | dsimp only [List.nil_append, List.cons_append]
    | with_reducible apply v_bi
    | rw [d_ref09_Total]
    | rw [d_ref09_Total_L0]
    | with_reducible refine v_bnd ?_)
theorem rworth_v (h : At s e i x ms cs m c) {p q : GPool} {a b : GLayer} (hp : x.Pools[(i * 2 + 0).toNat]? = some p) (hq : x.Pools[(i * 2 + (0 + 1)).toNat]? = some q)
    (ta : ∀ n, d_ref13_Total (n + 120) p = some a) (tb : ∀ n, d_ref13_Total (n + 120) q = some b) (s1 : Sm a.Qty ∧ Sm b.Qty ∧ Sm (a.Qty + b.Qty)) (s2 : Sm a.Value ∧ Sm b.Value ∧ Sm (a.Value + b.Value)) (s3 : Sm a.Profit ∧ Sm b.Profit ∧ Sm (a.Profit + b.Profit)) :
    d_ref14_Worth (n + 130) s e i = some ⟨0 + a.Qty + b.Qty, 0 + a.Value + b.Value, 0 + a.Profit + b.Profit⟩ := by
  have h0 := rat_v h (k := 0) (by omega) hp
  have h1 := rat_v h (k := 0 + 1) (by omega) hq
  unfold d_ref14_Worth
  repeat (first
    | with_reducible exact v_end
    | ((with_reducible refine v_fin ?_); (exact rfl))
    | ((with_reducible refine v_w ?_ ?_); · first | omega | decide | (dsimp only; omega) | (simp; done) | (simp; omega))
    | ((with_reducible refine v_wu ?_ ?_); · first | omega | decide | (dsimp only; omega) | (simp; done) | (simp; omega))
    | ((with_reducible refine v_T ?_ ?_); · first | omega | decide | (dsimp only; omega) | (simp; done) | (simp; omega) | (exact of_decide_eq_true rfl))
    | ((with_reducible refine v_F ?_ ?_); · first | omega | decide | (dsimp only; omega) | (simp; done) | (simp; omega) | (exact of_decide_eq_true rfl))
    | with_reducible refine v_nT ?_
    | with_reducible refine v_nF ?_
    | with_reducible refine v_cT ?_
    | with_reducible refine v_cF ?_
    | ((with_reducible refine v_as ?_ ?_); · first | omega | decide | (dsimp only; omega) | (simp; done) | (simp; omega) | (exact of_decide_eq_true rfl))
    | ((with_reducible apply v_ix); (first | omega | decide | (simp; done) | (dsimp only [List.length_cons, List.length_nil]; omega)); (exact rfl))
    | with_reducible refine v_p2 ?_
    | with_reducible refine v_selb ?_
    | with_reducible refine v_sele ?_
    | with_reducible refine v_selrl ?_
    | with_reducible refine v_selrr ?_
    | ((with_reducible refine v_ifT ?_ ?_); · first | omega | decide | (dsimp only; omega))
    | ((with_reducible refine v_ifF ?_ ?_); · first | omega | decide | (dsimp only; omega))
    | with_reducible refine v_bi (h0) ?_
    | with_reducible refine v_bi (h1) ?_
    | with_reducible refine v_bi (ta _) ?_
    | with_reducible refine v_bi (tb _) ?_
    | with_reducible refine v_bi (rsum2 s1.1 s1.2.1 s1.2.2) ?_
    | with_reducible refine v_bi (rsum2 s2.1 s2.2.1 s2.2.2) ?_
    | with_reducible refine v_bi (rsum2 s3.1 s3.2.1 s3.2.2) ?_
    | with_reducible refine v_brk ?_
    | with_reducible refine v_esc ?_
    | dsimp only [List.nil_append, List.cons_append]
    | with_reducible apply v_bi
    | rw [d_ref14_worth]
    | rw [d_ref14_worth_L0]
    | with_reducible refine v_bnd ?_)
end
end Go.Pv
