/- Plain laws: receipts of the small business. -/
import Derived.Test.YtbcjcecegdfnpaaGreatPlRa
set_option linter.unusedSimpArgs false
set_option linter.unusedVariables false
namespace Go.Pv
open Go.Proofs
set_option maxRecDepth 100000
set_option maxHeartbeats 4000000
@[reducible] def E0 : GEnt := ⟨1, false, [⟨[], ⟨0, 0, 0⟩⟩, ⟨[], ⟨0, 0, 0⟩⟩, ⟨[], ⟨0, 0, 0⟩⟩, ⟨[], ⟨0, 0, 0⟩⟩, ⟨[], ⟨0, 0, 0⟩⟩, ⟨[], ⟨0, 0, 0⟩⟩, ⟨[], ⟨0, 0, 0⟩⟩, ⟨[], ⟨0, 0, 0⟩⟩], [0, 0, 0, 0, 0, 0, 0, 0, 0, 0, 0, 0, 0, 0, 0, 0, 0], [⟨0, 0, 0, 0, 0, 0, 0, 0, 0, 0, 0⟩, ⟨0, 0, 0, 0, 0, 0, 0, 0, 0, 0, 0⟩, ⟨0, 0, 0, 0, 0, 0, 0, 0, 0, 0, 0⟩, ⟨0, 0, 0, 0, 0, 0, 0, 0, 0, 0, 0⟩], [-1, -1, -1, -1], [0, 0, 0, 0], []⟩
@[reducible] def S15 : GState := ⟨⟨2, 3, [1, 2, 3, 0], [[1, 2, 3, 4], [1, 2, 3, 4]], [[10, 10, 10, 10], [10, 10, 10, 10]]⟩, [E0, E0], [], [], [], 0⟩
theorem start15 : d_law15_start 60 = some S15 := by kernel_rfl
theorem awake15 : d_law15_awake 60 = some true := by kernel_rfl
variable {n : Nat}
theorem tot1' {q v p : Int} (hq : Sm q) (hv : Sm v) (hp : Sm p) : d_fifo_Total (n + 12) [⟨q, v, p⟩] = some (⟨q, v, p⟩, 0) := by simpa only [Int.zero_add] using tot1 hq hv hp
theorem min1' {q v p : Int} (hq : 1 ≤ q ∧ q ≤ 288230376151711744) (hv : 0 ≤ v ∧ v ≤ 288230376151711744) (hp : Sm p) : d_mavg_In (n + 12) [] ⟨q, v, p⟩ = some ([⟨q, v, p⟩], 0) := by simpa only [Int.zero_add] using min1 hq hv hp
theorem stdin1' {q v p c : Int} (hq : 1 ≤ q ∧ q < 2147483648) (hv : 0 ≤ v ∧ v ≤ 288230376151711744) (hp : Sm p) (hc : 0 ≤ c ∧ c < 134217728) (hm : 0 ≤ q * c ∧ q * c ≤ 288230376151711744) :
    d_stdcost_In (n + 12) [] ⟨q, v, p⟩ c = some ([⟨q, q * c, p⟩], v - q * c, 0) := by simpa only [Int.zero_add] using stdin1 hq hv hp hc hm
theorem pin1 {q v p c : Int} {pd : A3_Int} (hq : 1 ≤ q ∧ q ≤ 288230376151711744) (hv : 0 ≤ v ∧ v ≤ 288230376151711744) (hp : Sm p) : d_pool_In (n + 12) 1 c ⟨[], pd⟩ ⟨q, v, p⟩ = some (⟨[⟨q, v, p⟩], pd⟩, 0, 0) := by
  unfold d_pool_In
  repeat (first
    | with_reducible exact v_end
    | ((with_reducible refine v_fin ?_); (exact rfl))
    | ((with_reducible refine v_w ?_ ?_); · first | omega | decide | (dsimp only; omega) | (simp; done) | (simp; omega))
    | ((with_reducible refine v_wu ?_ ?_); · first | omega | decide | (dsimp only; omega) | (simp; done) | (simp; omega))
    | ((with_reducible refine v_T ?_ ?_); · first | omega | decide | (dsimp only; omega) | (simp; done) | (simp; omega) | (exact of_decide_eq_true rfl))
    | ((with_reducible refine v_F ?_ ?_); · first | omega | decide | (dsimp only; omega) | (simp; done) | (simp; omega) | (exact of_decide_eq_true rfl))
    | with_reducible refine v_nT ?_
    | with_reducible refine v_nF ?_
    | with_reducible refine v_cT ?_
    | with_reducible refine v_cF ?_
    | ((with_reducible refine v_as ?_ ?_); · first | omega | decide | (dsimp only; omega) | (simp; done) | (simp; omega) | (exact of_decide_eq_true rfl))
    | ((with_reducible apply v_ix); (first | omega | decide | (simp; done) | (dsimp only [List.length_cons, List.length_nil]; omega)); (exact rfl))
    | with_reducible refine v_p2 ?_
    | with_reducible refine v_selb ?_
    | with_reducible refine v_sele ?_
    | with_reducible refine v_selrl ?_
    | with_reducible refine v_selrr ?_
    | ((with_reducible refine v_ifT ?_ ?_); · first | omega | decide | (dsimp only; omega))
    | ((with_reducible refine v_ifF ?_ ?_); · first | omega | decide | (dsimp only; omega))
    | with_reducible refine v_bi (fin1 hq hv hp) ?_
    | with_reducible refine v_brk ?_
    | with_reducible refine v_esc ?_
    | dsimp only [List.nil_append, List.cons_append]
    | with_reducible apply v_bi
    | rw [d_pool_with]
    | with_reducible refine v_bnd ?_)
theorem pin2 {q v p c : Int} {pd : A3_Int} (hq : 1 ≤ q ∧ q ≤ 288230376151711744) (hv : 0 ≤ v ∧ v ≤ 288230376151711744) (hp : Sm p) : d_pool_In (n + 12) 2 c ⟨[], pd⟩ ⟨q, v, p⟩ = some (⟨[⟨q, v, p⟩], pd⟩, 0, 0) := by
  unfold d_pool_In
  repeat (first
    | with_reducible exact v_end
    | ((with_reducible refine v_fin ?_); (exact rfl))
    | ((with_reducible refine v_w ?_ ?_); · first | omega | decide | (dsimp only; omega) | (simp; done) | (simp; omega))
    | ((with_reducible refine v_wu ?_ ?_); · first | omega | decide | (dsimp only; omega) | (simp; done) | (simp; omega))
    | ((with_reducible refine v_T ?_ ?_); · first | omega | decide | (dsimp only; omega) | (simp; done) | (simp; omega) | (exact of_decide_eq_true rfl))
    | ((with_reducible refine v_F ?_ ?_); · first | omega | decide | (dsimp only; omega) | (simp; done) | (simp; omega) | (exact of_decide_eq_true rfl))
    | with_reducible refine v_nT ?_
    | with_reducible refine v_nF ?_
    | with_reducible refine v_cT ?_
    | with_reducible refine v_cF ?_
    | ((with_reducible refine v_as ?_ ?_); · first | omega | decide | (dsimp only; omega) | (simp; done) | (simp; omega) | (exact of_decide_eq_true rfl))
    | ((with_reducible apply v_ix); (first | omega | decide | (simp; done) | (dsimp only [List.length_cons, List.length_nil]; omega)); (exact rfl))
    | with_reducible refine v_p2 ?_
    | with_reducible refine v_selb ?_
    | with_reducible refine v_sele ?_
    | with_reducible refine v_selrl ?_
    | with_reducible refine v_selrr ?_
    | ((with_reducible refine v_ifT ?_ ?_); · first | omega | decide | (dsimp only; omega))
    | ((with_reducible refine v_ifF ?_ ?_); · first | omega | decide | (dsimp only; omega))
    | with_reducible refine v_bi (min1' hq hv hp) ?_
    | with_reducible refine v_brk ?_
    | with_reducible refine v_esc ?_
    | dsimp only [List.nil_append, List.cons_append]
    | with_reducible apply v_bi
    | rw [d_pool_with]
    | with_reducible refine v_bnd ?_)
theorem pavg1 {q v p : Int} {pd : A3_Int} (hq : 1 ≤ q ∧ q ≤ 288230376151711744) (hv : 0 ≤ v ∧ v ≤ 288230376151711744) (hp : Sm p) : d_pavg_In (n + 12) ⟨[], pd⟩ ⟨q, v, p⟩ = some (⟨[⟨q, v, p⟩], pd⟩, 0) := by
  unfold d_pavg_In
  repeat (first
    | with_reducible exact v_end
    | ((with_reducible refine v_fin ?_); (exact rfl))
    | ((with_reducible refine v_w ?_ ?_); · first | omega | decide | (dsimp only; omega) | (simp; done) | (simp; omega))
    | ((with_reducible refine v_wu ?_ ?_); · first | omega | decide | (dsimp only; omega) | (simp; done) | (simp; omega))
    | ((with_reducible refine v_T ?_ ?_); · first | omega | decide | (dsimp only; omega) | (simp; done) | (simp; omega) | (exact of_decide_eq_true rfl))
    | ((with_reducible refine v_F ?_ ?_); · first | omega | decide | (dsimp only; omega) | (simp; done) | (simp; omega) | (exact of_decide_eq_true rfl))
    | with_reducible refine v_nT ?_
    | with_reducible refine v_nF ?_
    | with_reducible refine v_cT ?_
    | with_reducible refine v_cF ?_
    | ((with_reducible refine v_as ?_ ?_); · first | omega | decide | (dsimp only; omega) | (simp; done) | (simp; omega) | (exact of_decide_eq_true rfl))
    | ((with_reducible apply v_ix); (first | omega | decide | (simp; done) | (dsimp only [List.length_cons, List.length_nil]; omega)); (exact rfl))
    | with_reducible refine v_p2 ?_
    | with_reducible refine v_selb ?_
    | with_reducible refine v_sele ?_
    | with_reducible refine v_selrl ?_
    | with_reducible refine v_selrr ?_
    | ((with_reducible refine v_ifT ?_ ?_); · first | omega | decide | (dsimp only; omega))
    | ((with_reducible refine v_ifF ?_ ?_); · first | omega | decide | (dsimp only; omega))
    | with_reducible refine v_bi (min1' hq hv hp) ?_
    | with_reducible refine v_brk ?_
    | with_reducible refine v_esc ?_
    | dsimp only [List.nil_append, List.cons_append]
    | with_reducible apply v_bi
    | rw [d_pavg_own]
    | with_reducible refine v_bnd ?_)
theorem pin3 {q v p c : Int} {pd : A3_Int} (hq : 1 ≤ q ∧ q ≤ 288230376151711744) (hv : 0 ≤ v ∧ v ≤ 288230376151711744) (hp : Sm p) : d_pool_In (n + 12) 3 c ⟨[], pd⟩ ⟨q, v, p⟩ = some (⟨[⟨q, v, p⟩], pd⟩, 0, 0) := by
  unfold d_pool_In
  repeat (first
    | with_reducible exact v_end
    | ((with_reducible refine v_fin ?_); (exact rfl))
    | ((with_reducible refine v_w ?_ ?_); · first | omega | decide | (dsimp only; omega) | (simp; done) | (simp; omega))
    | ((with_reducible refine v_wu ?_ ?_); · first | omega | decide | (dsimp only; omega) | (simp; done) | (simp; omega))
    | ((with_reducible refine v_T ?_ ?_); · first | omega | decide | (dsimp only; omega) | (simp; done) | (simp; omega) | (exact of_decide_eq_true rfl))
    | ((with_reducible refine v_F ?_ ?_); · first | omega | decide | (dsimp only; omega) | (simp; done) | (simp; omega) | (exact of_decide_eq_true rfl))
    | with_reducible refine v_nT ?_
    | with_reducible refine v_nF ?_
    | with_reducible refine v_cT ?_
    | with_reducible refine v_cF ?_
    | ((with_reducible refine v_as ?_ ?_); · first | omega | decide | (dsimp only; omega) | (simp; done) | (simp; omega) | (exact of_decide_eq_true rfl))
    | ((with_reducible apply v_ix); (first | omega | decide | (simp; done) | (dsimp only [List.length_cons, List.length_nil]; omega)); (exact rfl))
    | with_reducible refine v_p2 ?_
    | with_reducible refine v_selb ?_
    | with_reducible refine v_sele ?_
    | with_reducible refine v_selrl ?_
    | with_reducible refine v_selrr ?_
    | ((with_reducible refine v_ifT ?_ ?_); · first | omega | decide | (dsimp only; omega))
    | ((with_reducible refine v_ifF ?_ ?_); · first | omega | decide | (dsimp only; omega))
    | with_reducible refine v_bi (pavg1 hq hv hp) ?_
    | with_reducible refine v_brk ?_
    | with_reducible refine v_esc ?_
    | dsimp only [List.nil_append, List.cons_append]
    | with_reducible apply v_bi
    | rw [d_pool_with]
    | with_reducible refine v_bnd ?_)
theorem pin4 {q v p c : Int} {pd : A3_Int} (hq : 1 ≤ q ∧ q < 2147483648) (hv : 0 ≤ v ∧ v ≤ 288230376151711744) (hp : Sm p) (hc : 0 ≤ c ∧ c < 134217728) (hm : 0 ≤ q * c ∧ q * c ≤ 288230376151711744) :
    d_pool_In (n + 12) 4 c ⟨[], pd⟩ ⟨q, v, p⟩ = some (⟨[⟨q, q * c, p⟩], pd⟩, v - q * c, 0) := by
  unfold d_pool_In
  repeat (first
    | with_reducible exact v_end
    | ((with_reducible refine v_fin ?_); (exact rfl))
    | ((with_reducible refine v_w ?_ ?_); · first | omega | decide | (dsimp only; omega) | (simp; done) | (simp; omega))
    | ((with_reducible refine v_wu ?_ ?_); · first | omega | decide | (dsimp only; omega) | (simp; done) | (simp; omega))
    | ((with_reducible refine v_T ?_ ?_); · first | omega | decide | (dsimp only; omega) | (simp; done) | (simp; omega) | (exact of_decide_eq_true rfl))
    | ((with_reducible refine v_F ?_ ?_); · first | omega | decide | (dsimp only; omega) | (simp; done) | (simp; omega) | (exact of_decide_eq_true rfl))
    | with_reducible refine v_nT ?_
    | with_reducible refine v_nF ?_
    | with_reducible refine v_cT ?_
    | with_reducible refine v_cF ?_
    | ((with_reducible refine v_as ?_ ?_); · first | omega | decide | (dsimp only; omega) | (simp; done) | (simp; omega) | (exact of_decide_eq_true rfl))
    | ((with_reducible apply v_ix); (first | omega | decide | (simp; done) | (dsimp only [List.length_cons, List.length_nil]; omega)); (exact rfl))
    | with_reducible refine v_p2 ?_
    | with_reducible refine v_selb ?_
    | with_reducible refine v_sele ?_
    | with_reducible refine v_selrl ?_
    | with_reducible refine v_selrr ?_
    | ((with_reducible refine v_ifT ?_ ?_); · first | omega | decide | (dsimp only; omega))
    | ((with_reducible refine v_ifF ?_ ?_); · first | omega | decide | (dsimp only; omega))
    | with_reducible refine v_bi (stdin1' hq hv hp hc hm) ?_
    | with_reducible refine v_brk ?_
    | with_reducible refine v_esc ?_
    | dsimp only [List.nil_append, List.cons_append]
    | with_reducible apply v_bi
    | rw [d_pool_with]
    | with_reducible refine v_bnd ?_)
theorem plA {a b c : Int} (sa : Sm a) (sb : Sm b) (sc : Sm c) (ha : a ≠ 0) (hb : b = 0) (hc : c ≠ 0) : d_voucher_Plain (n + 12) [⟨0, a⟩, ⟨6, b⟩, ⟨1, c⟩] = some ([⟨0, a⟩, ⟨1, c⟩], 0) := by
  repeat (first
    | with_reducible exact v_end
    | ((with_reducible refine v_fin ?_); (exact rfl))
    | ((with_reducible refine v_w ?_ ?_); · first | omega | decide | (dsimp only; omega) | (simp; done) | (simp; omega))
    | ((with_reducible refine v_wu ?_ ?_); · first | omega | decide | (dsimp only; omega) | (simp; done) | (simp; omega))
    | ((with_reducible refine v_T ?_ ?_); · first | omega | decide | (dsimp only; omega) | (simp; done) | (simp; omega) | (exact of_decide_eq_true rfl))
    | ((with_reducible refine v_F ?_ ?_); · first | omega | decide | (dsimp only; omega) | (simp; done) | (simp; omega) | (exact of_decide_eq_true rfl))
    | with_reducible refine v_nT ?_
    | with_reducible refine v_nF ?_
    | with_reducible refine v_cT ?_
    | with_reducible refine v_cF ?_
    | ((with_reducible refine v_as ?_ ?_); · first | omega | decide | (dsimp only; omega) | (simp; done) | (simp; omega) | (exact of_decide_eq_true rfl))
    | ((with_reducible apply v_ix); (first | omega | decide | (simp; done) | (dsimp only [List.length_cons, List.length_nil]; omega)); (exact rfl))
    | with_reducible refine v_p2 ?_
    | with_reducible refine v_selb ?_
    | with_reducible refine v_sele ?_
    | with_reducible refine v_selrl ?_
    | with_reducible refine v_selrr ?_
    | ((with_reducible refine v_ifT ?_ ?_); · first | omega | decide | (dsimp only; omega))
    | ((with_reducible refine v_ifF ?_ ?_); · first | omega | decide | (dsimp only; omega))
    | with_reducible refine v_brk ?_
    | with_reducible refine v_esc ?_
    | dsimp only [List.nil_append, List.cons_append]
    | with_reducible apply v_bi
    | rw [d_voucher_Plain]
    | rw [d_voucher_Plain_L0]
    | rw [d_voucher_Plain_1]
    | rw [d_voucher_is]
    | rw [d_voucher_in]
    | rw [d_voucher_Plain_L1]
    | rw [d_voucher_Plain_L2]
    | rw [d_voucher_Plain_L3]
    | rw [d_voucher_Plain_2]
    | rw [d_cmp_Compare_int]
    | rw [d_cmp_isNaN_int]
    | rw [d_voucher_Plain_L4]
    | rw [d_voucher_Plain_L5]
    | rw [d_voucher_Plain_L6]
    | rw [d_voucher_Plain_L7]
    | rw [d_voucher_Plain_3]
    | with_reducible refine v_bnd ?_)
theorem plB {a b c : Int} (sa : Sm a) (sb : Sm b) (sc : Sm c) (ha : a = 0) (hb : b = 0) (hc : c = 0) : d_voucher_Plain (n + 12) [⟨0, a⟩, ⟨6, b⟩, ⟨1, c⟩] = some ([], 0) := by
  repeat (first
    | with_reducible exact v_end
    | ((with_reducible refine v_fin ?_); (exact rfl))
    | ((with_reducible refine v_w ?_ ?_); · first | omega | decide | (dsimp only; omega) | (simp; done) | (simp; omega))
    | ((with_reducible refine v_wu ?_ ?_); · first | omega | decide | (dsimp only; omega) | (simp; done) | (simp; omega))
    | ((with_reducible refine v_T ?_ ?_); · first | omega | decide | (dsimp only; omega) | (simp; done) | (simp; omega) | (exact of_decide_eq_true rfl))
    | ((with_reducible refine v_F ?_ ?_); · first | omega | decide | (dsimp only; omega) | (simp; done) | (simp; omega) | (exact of_decide_eq_true rfl))
    | with_reducible refine v_nT ?_
    | with_reducible refine v_nF ?_
    | with_reducible refine v_cT ?_
    | with_reducible refine v_cF ?_
    | ((with_reducible refine v_as ?_ ?_); · first | omega | decide | (dsimp only; omega) | (simp; done) | (simp; omega) | (exact of_decide_eq_true rfl))
    | ((with_reducible apply v_ix); (first | omega | decide | (simp; done) | (dsimp only [List.length_cons, List.length_nil]; omega)); (exact rfl))
    | with_reducible refine v_p2 ?_
    | with_reducible refine v_selb ?_
    | with_reducible refine v_sele ?_
    | with_reducible refine v_selrl ?_
    | with_reducible refine v_selrr ?_
    | ((with_reducible refine v_ifT ?_ ?_); · first | omega | decide | (dsimp only; omega))
    | ((with_reducible refine v_ifF ?_ ?_); · first | omega | decide | (dsimp only; omega))
    | with_reducible refine v_brk ?_
    | with_reducible refine v_esc ?_
    | dsimp only [List.nil_append, List.cons_append]
    | with_reducible apply v_bi
    | rw [d_voucher_Plain]
    | rw [d_voucher_Plain_L0]
    | rw [d_voucher_Plain_1]
    | rw [d_voucher_is]
    | rw [d_voucher_in]
    | rw [d_voucher_Plain_L1]
    | rw [d_voucher_Plain_L2]
    | rw [d_voucher_Plain_L3]
    | rw [d_voucher_Plain_2]
    | rw [d_cmp_Compare_int]
    | rw [d_cmp_isNaN_int]
    | rw [d_voucher_Plain_L4]
    | rw [d_voucher_Plain_L5]
    | rw [d_voucher_Plain_L6]
    | rw [d_voucher_Plain_L7]
    | rw [d_voucher_Plain_3]
    | with_reducible refine v_bnd ?_)
theorem plC {a b c : Int} (sa : Sm a) (sb : Sm b) (sc : Sm c) (ha : a ≠ 0) (hb : b ≠ 0) (hc : c ≠ 0) : d_voucher_Plain (n + 12) [⟨0, a⟩, ⟨6, b⟩, ⟨1, c⟩] = some ([⟨0, a⟩, ⟨1, c⟩, ⟨6, b⟩], 0) := by
  repeat (first
    | with_reducible exact v_end
    | ((with_reducible refine v_fin ?_); (exact rfl))
    | ((with_reducible refine v_w ?_ ?_); · first | omega | decide | (dsimp only; omega) | (simp; done) | (simp; omega))
    | ((with_reducible refine v_wu ?_ ?_); · first | omega | decide | (dsimp only; omega) | (simp; done) | (simp; omega))
    | ((with_reducible refine v_T ?_ ?_); · first | omega | decide | (dsimp only; omega) | (simp; done) | (simp; omega) | (exact of_decide_eq_true rfl))
    | ((with_reducible refine v_F ?_ ?_); · first | omega | decide | (dsimp only; omega) | (simp; done) | (simp; omega) | (exact of_decide_eq_true rfl))
    | with_reducible refine v_nT ?_
    | with_reducible refine v_nF ?_
    | with_reducible refine v_cT ?_
    | with_reducible refine v_cF ?_
    | ((with_reducible refine v_as ?_ ?_); · first | omega | decide | (dsimp only; omega) | (simp; done) | (simp; omega) | (exact of_decide_eq_true rfl))
    | ((with_reducible apply v_ix); (first | omega | decide | (simp; done) | (dsimp only [List.length_cons, List.length_nil]; omega)); (exact rfl))
    | with_reducible refine v_p2 ?_
    | with_reducible refine v_selb ?_
    | with_reducible refine v_sele ?_
    | with_reducible refine v_selrl ?_
    | with_reducible refine v_selrr ?_
    | ((with_reducible refine v_ifT ?_ ?_); · first | omega | decide | (dsimp only; omega))
    | ((with_reducible refine v_ifF ?_ ?_); · first | omega | decide | (dsimp only; omega))
    | with_reducible refine v_brk ?_
    | with_reducible refine v_esc ?_
    | dsimp only [List.nil_append, List.cons_append]
    | with_reducible apply v_bi
    | rw [d_voucher_Plain]
    | rw [d_voucher_Plain_L0]
    | rw [d_voucher_Plain_1]
    | rw [d_voucher_is]
    | rw [d_voucher_in]
    | rw [d_voucher_Plain_L1]
    | rw [d_voucher_Plain_L2]
    | rw [d_voucher_Plain_L3]
    | rw [d_voucher_Plain_2]
    | rw [d_cmp_Compare_int]
    | rw [d_cmp_isNaN_int]
    | rw [d_voucher_Plain_L4]
    | rw [d_voucher_Plain_L5]
    | rw [d_voucher_Plain_L6]
    | rw [d_voucher_Plain_L7]
    | rw [d_voucher_Plain_3]
    | with_reducible refine v_bnd ?_)
theorem plD {a b c : Int} (sa : Sm a) (sb : Sm b) (sc : Sm c) (ha : a ≠ 0) (hb : b ≠ 0) (hc : c = 0) : d_voucher_Plain (n + 12) [⟨0, a⟩, ⟨6, b⟩, ⟨1, c⟩] = some ([⟨0, a⟩, ⟨6, b⟩], 0) := by
  repeat (first
    | with_reducible exact v_end
    | ((with_reducible refine v_fin ?_); (exact rfl))
    | ((with_reducible refine v_w ?_ ?_); · first | omega | decide | (dsimp only; omega) | (simp; done) | (simp; omega))
    | ((with_reducible refine v_wu ?_ ?_); · first | omega | decide | (dsimp only; omega) | (simp; done) | (simp; omega))
    | ((with_reducible refine v_T ?_ ?_); · first | omega | decide | (dsimp only; omega) | (simp; done) | (simp; omega) | (exact of_decide_eq_true rfl))
    | ((with_reducible refine v_F ?_ ?_); · first | omega | decide | (dsimp only; omega) | (simp; done) | (simp; omega) | (exact of_decide_eq_true rfl))
    | with_reducible refine v_nT ?_
    | with_reducible refine v_nF ?_
    | with_reducible refine v_cT ?_
    | with_reducible refine v_cF ?_
    | ((with_reducible refine v_as ?_ ?_); · first | omega | decide | (dsimp only; omega) | (simp; done) | (simp; omega) | (exact of_decide_eq_true rfl))
    | ((with_reducible apply v_ix); (first | omega | decide | (simp; done) | (dsimp only [List.length_cons, List.length_nil]; omega)); (exact rfl))
    | with_reducible refine v_p2 ?_
    | with_reducible refine v_selb ?_
    | with_reducible refine v_sele ?_
    | with_reducible refine v_selrl ?_
    | with_reducible refine v_selrr ?_
    | ((with_reducible refine v_ifT ?_ ?_); · first | omega | decide | (dsimp only; omega))
    | ((with_reducible refine v_ifF ?_ ?_); · first | omega | decide | (dsimp only; omega))
    | with_reducible refine v_brk ?_
    | with_reducible refine v_esc ?_
    | dsimp only [List.nil_append, List.cons_append]
    | with_reducible apply v_bi
    | rw [d_voucher_Plain]
    | rw [d_voucher_Plain_L0]
    | rw [d_voucher_Plain_1]
    | rw [d_voucher_is]
    | rw [d_voucher_in]
    | rw [d_voucher_Plain_L1]
    | rw [d_voucher_Plain_L2]
    | rw [d_voucher_Plain_L3]
    | rw [d_voucher_Plain_2]
    | rw [d_cmp_Compare_int]
    | rw [d_cmp_isNaN_int]
    | rw [d_voucher_Plain_L4]
    | rw [d_voucher_Plain_L5]
    | rw [d_voucher_Plain_L6]
    | rw [d_voucher_Plain_L7]
    | rw [d_voucher_Plain_3]
    | with_reducible refine v_bnd ?_)
end Go.Pv
