/- How many places a number has. -/
import Derived.Test.YtbcjcecegdfnpaaGreatD5
set_option linter.unusedSimpArgs false
set_option linter.unusedVariables false
namespace Go.Pv
open Go.Proofs
set_option maxRecDepth 100000
set_option maxHeartbeats 1000000
section
variable {β : Type}
theorem v_f32 {x : Int} {f : Int → Option β} {r : Option β} (h : f (x / 4294967296) = r) : bnd (x.fdiv (2 ^ (min (32 : Int).toNat IntKind.u64.bits))) f = r := by
  show f (x.fdiv 4294967296) = r
  rw [Int.fdiv_eq_ediv_of_nonneg x (by decide)]; exact h
theorem v_f16 {x : Int} {f : Int → Option β} {r : Option β} (h : f (x / 65536) = r) : bnd (x.fdiv (2 ^ (min (16 : Int).toNat IntKind.u64.bits))) f = r := by
  show f (x.fdiv 65536) = r
  rw [Int.fdiv_eq_ediv_of_nonneg x (by decide)]; exact h
theorem v_f8 {x : Int} {f : Int → Option β} {r : Option β} (h : f (x / 256) = r) : bnd (x.fdiv (2 ^ (min (8 : Int).toNat IntKind.u64.bits))) f = r := by
  show f (x.fdiv 256) = r
  rw [Int.fdiv_eq_ediv_of_nonneg x (by decide)]; exact h
theorem v_w8 {x : Int} {f : Int → Option β} {r : Option β} (hx : 0 ≤ x ∧ x ≤ 255) (h : f x = r) : bnd (wu8 x) f = r := by
  show f (wu8 x) = r
  rw [show wu8 x = x from wrapu8 hx]; exact h
end
theorem log_cases {k : Nat} {c : UInt8} (h8 : c.toNat ≤ 8) (h1 : k < 2 ^ c.toNat) (h2 : 2 ^ c.toNat ≤ 2 * k + (if k = 0 then 1 else 0)) (hk : 1 ≤ k) :
    ∃ m : Nat, c.toNat = m + 1 ∧ m ≤ 7 ∧ 2 ^ m ≤ k ∧ k < 2 ^ (m + 1) := by
  rw [if_neg (by omega)] at h2
  cases hc : c.toNat with
  | zero => rw [hc] at h1; simp at h1; omega
  | succ m => rw [hc] at h1 h2 h8; exact ⟨m, rfl, by omega, by rw [Nat.pow_succ] at h2; omega, h1⟩
theorem pow_range {m off : Nat} {z x : Int} (hm : m ≤ 7) (hz : (2 : Int) ^ m ≤ z) (hz2 : z < 2 ^ (m + 1)) (hx : z * 2 ^ off ≤ x) (hx2 : x < (z + 1) * 2 ^ off) : (2 : Int) ^ (m + off) ≤ x ∧ x < 2 ^ (m + 1 + off) := by
  have p : (0 : Int) ≤ 2 ^ off := Int.pow_nonneg (by decide)
  constructor
  · rw [Int.pow_add]; exact Int.le_trans (Int.mul_le_mul_of_nonneg_right hz p) hx
  · rw [Int.pow_add]; exact Int.lt_of_lt_of_le hx2 (Int.mul_le_mul_of_nonneg_right (by omega) p)
@[reducible] def logT : List UInt8 := ([0, 1, 2, 2, 3, 3, 3, 3, 4, 4, 4, 4, 4, 4, 4, 4, 5, 5, 5, 5, 5, 5, 5, 5, 5, 5, 5, 5, 5, 5, 5, 5, 6, 6, 6, 6, 6, 6, 6, 6, 6, 6, 6, 6, 6, 6, 6, 6, 6, 6, 6, 6, 6, 6, 6, 6, 6, 6, 6, 6, 6, 6, 6, 6, 7, 7, 7, 7, 7, 7, 7, 7, 7, 7, 7, 7, 7, 7, 7, 7, 7, 7, 7, 7, 7, 7, 7, 7, 7, 7, 7, 7, 7, 7, 7, 7, 7, 7, 7, 7, 7, 7, 7, 7, 7, 7, 7, 7, 7, 7, 7, 7, 7, 7, 7, 7, 7, 7, 7, 7, 7, 7, 7, 7, 7, 7, 7, 7, 8, 8, 8, 8, 8, 8, 8, 8, 8, 8, 8, 8, 8, 8, 8, 8, 8, 8, 8, 8, 8, 8, 8, 8, 8, 8, 8, 8, 8, 8, 8, 8, 8, 8, 8, 8, 8, 8, 8, 8, 8, 8, 8, 8, 8, 8, 8, 8, 8, 8, 8, 8, 8, 8, 8, 8, 8, 8, 8, 8, 8, 8, 8, 8, 8, 8, 8, 8, 8, 8, 8, 8, 8, 8, 8, 8, 8, 8, 8, 8, 8, 8, 8, 8, 8, 8, 8, 8, 8, 8, 8, 8, 8, 8, 8, 8, 8, 8, 8, 8, 8, 8, 8, 8, 8, 8, 8, 8, 8, 8, 8, 8, 8, 8, 8, 8, 8, 8, 8, 8, 8, 8, 8, 8, 8, 8, 8, 8] : List UInt8)
theorem len_v {x : Int} (h : 1 ≤ x ∧ x ≤ 18446744073709551615) : ∃ L : Nat, d_math_bits_Len64 x = some ((L : Int) + 1) ∧ L ≤ 63 ∧ (2 : Int) ^ L ≤ x ∧ x < 2 ^ (L + 1) := by
  have fin : ∀ (off : Nat) (z : Int), (z * 2 ^ off ≤ x ∧ x < (z + 1) * 2 ^ off) → 1 ≤ z → z ≤ 255 → off ≤ 56 →
      ∃ (m : Nat) (c : UInt8), (logT)[z.toNat]? = some c ∧ (c.toNat : Int) = (m : Int) + 1 ∧ m ≤ 7 ∧ (2 : Int) ^ (m + off) ≤ x ∧ x < 2 ^ (m + off + 1) := by
    intro off z hz z1 z2 ho
    obtain ⟨c, hc, h8, h1, h2⟩ := log_spec z.toNat (by omega)
    obtain ⟨m, e, hm, g1, g2⟩ := log_cases h8 h1 h2 (by omega)
    have k1 : (2 : Int) ^ m ≤ z := by
      have : ((2 ^ m : Nat) : Int) ≤ (z.toNat : Int) := by exact_mod_cast g1
      rw [Int.toNat_of_nonneg (by omega)] at this; simpa using this
    have k2 : z < (2 : Int) ^ (m + 1) := by
      have : (z.toNat : Int) < ((2 ^ (m + 1) : Nat) : Int) := by exact_mod_cast g2
      rw [Int.toNat_of_nonneg (by omega)] at this; simpa using this
    have := pow_range hm k1 k2 hz.1 hz.2
    exact ⟨m, c, hc, by omega, hm, this.1, by rw [show m + off + 1 = m + 1 + off from by omega]; exact this.2⟩
  by_cases h0 : x ≥ 4294967296
  · by_cases h1 : (x / 4294967296) ≥ 65536
    · by_cases h2 : ((x / 4294967296) / 65536) ≥ 256
      · obtain ⟨m, c, hc, e, hm, g1, g2⟩ := fin 56 ((((x / 4294967296) / 65536) / 256)) ⟨by show _ * (72057594037927936 : Int) ≤ _; omega, by show _ < _ * (72057594037927936 : Int); omega⟩ (by omega) (by omega) (by decide)
        refine ⟨m + 56, ?_, by omega, g1, g2⟩
        unfold d_math_bits_Len64
        repeat (first
              | with_reducible exact v_end
              | ((with_reducible refine v_fin ?_); (exact rfl))
              | ((with_reducible refine v_w ?_ ?_); · first | omega | decide | (dsimp only; omega) | (simp; done) | (simp; omega))
              | ((with_reducible refine v_wu ?_ ?_); · first | omega | decide | (dsimp only; omega) | (simp; done) | (simp; omega))
              | ((with_reducible refine v_T ?_ ?_); · first | omega | decide | (dsimp only; omega) | (simp; done) | (simp; omega) | (exact of_decide_eq_true rfl))
              | ((with_reducible refine v_F ?_ ?_); · first | omega | decide | (dsimp only; omega) | (simp; done) | (simp; omega) | (exact of_decide_eq_true rfl))
              | with_reducible refine v_nT ?_
              | with_reducible refine v_nF ?_
              | with_reducible refine v_cT ?_
              | with_reducible refine v_cF ?_
              | ((with_reducible refine v_as ?_ ?_); · first | omega | decide | (dsimp only; omega) | (simp; done) | (simp; omega) | (exact of_decide_eq_true rfl))
              | ((with_reducible apply v_ix); (first | omega | decide | (simp; done) | (dsimp only [List.length_cons, List.length_nil]; omega)); (exact rfl))
              | with_reducible refine v_p2 ?_
              | with_reducible refine v_selb ?_
              | with_reducible refine v_sele ?_
              | with_reducible refine v_selrl ?_
              | with_reducible refine v_selrr ?_
              | ((with_reducible refine v_ifT ?_ ?_); · first | omega | decide | (dsimp only; omega))
              | ((with_reducible refine v_ifF ?_ ?_); · first | omega | decide | (dsimp only; omega))
              | with_reducible refine v_brk ?_
              | with_reducible refine v_esc ?_
              | dsimp only [List.nil_append, List.cons_append]
              | with_reducible refine v_f32 ?_
              | with_reducible refine v_f16 ?_
              | with_reducible refine v_f8 ?_
              | ((with_reducible refine v_w8 ?_ ?_); · omega)
              | with_reducible refine v_ix (by omega) hc ?_
              | with_reducible apply v_bi
              | with_reducible refine v_bnd ?_)
        all_goals try (refine congrArg some ?_; omega)
      · obtain ⟨m, c, hc, e, hm, g1, g2⟩ := fin 48 (((x / 4294967296) / 65536)) ⟨by show _ * (281474976710656 : Int) ≤ _; omega, by show _ < _ * (281474976710656 : Int); omega⟩ (by omega) (by omega) (by decide)
        refine ⟨m + 48, ?_, by omega, g1, g2⟩
        unfold d_math_bits_Len64
        repeat (first
              | with_reducible exact v_end
              | ((with_reducible refine v_fin ?_); (exact rfl))
              | ((with_reducible refine v_w ?_ ?_); · first | omega | decide | (dsimp only; omega) | (simp; done) | (simp; omega))
              | ((with_reducible refine v_wu ?_ ?_); · first | omega | decide | (dsimp only; omega) | (simp; done) | (simp; omega))
              | ((with_reducible refine v_T ?_ ?_); · first | omega | decide | (dsimp only; omega) | (simp; done) | (simp; omega) | (exact of_decide_eq_true rfl))
              | ((with_reducible refine v_F ?_ ?_); · first | omega | decide | (dsimp only; omega) | (simp; done) | (simp; omega) | (exact of_decide_eq_true rfl))
              | with_reducible refine v_nT ?_
              | with_reducible refine v_nF ?_
              | with_reducible refine v_cT ?_
              | with_reducible refine v_cF ?_
              | ((with_reducible refine v_as ?_ ?_); · first | omega | decide | (dsimp only; omega) | (simp; done) | (simp; omega) | (exact of_decide_eq_true rfl))
              | ((with_reducible apply v_ix); (first | omega | decide | (simp; done) | (dsimp only [List.length_cons, List.length_nil]; omega)); (exact rfl))
              | with_reducible refine v_p2 ?_
              | with_reducible refine v_selb ?_
              | with_reducible refine v_sele ?_
              | with_reducible refine v_selrl ?_
              | with_reducible refine v_selrr ?_
              | ((with_reducible refine v_ifT ?_ ?_); · first | omega | decide | (dsimp only; omega))
              | ((with_reducible refine v_ifF ?_ ?_); · first | omega | decide | (dsimp only; omega))
              | with_reducible refine v_brk ?_
              | with_reducible refine v_esc ?_
              | dsimp only [List.nil_append, List.cons_append]
              | with_reducible refine v_f32 ?_
              | with_reducible refine v_f16 ?_
              | with_reducible refine v_f8 ?_
              | ((with_reducible refine v_w8 ?_ ?_); · omega)
              | with_reducible refine v_ix (by omega) hc ?_
              | with_reducible apply v_bi
              | with_reducible refine v_bnd ?_)
        all_goals try (refine congrArg some ?_; omega)
    · by_cases h2 : (x / 4294967296) ≥ 256
      · obtain ⟨m, c, hc, e, hm, g1, g2⟩ := fin 40 (((x / 4294967296) / 256)) ⟨by show _ * (1099511627776 : Int) ≤ _; omega, by show _ < _ * (1099511627776 : Int); omega⟩ (by omega) (by omega) (by decide)
        refine ⟨m + 40, ?_, by omega, g1, g2⟩
        unfold d_math_bits_Len64
        repeat (first
              | with_reducible exact v_end
              | ((with_reducible refine v_fin ?_); (exact rfl))
              | ((with_reducible refine v_w ?_ ?_); · first | omega | decide | (dsimp only; omega) | (simp; done) | (simp; omega))
              | ((with_reducible refine v_wu ?_ ?_); · first | omega | decide | (dsimp only; omega) | (simp; done) | (simp; omega))
              | ((with_reducible refine v_T ?_ ?_); · first | omega | decide | (dsimp only; omega) | (simp; done) | (simp; omega) | (exact of_decide_eq_true rfl))
              | ((with_reducible refine v_F ?_ ?_); · first | omega | decide | (dsimp only; omega) | (simp; done) | (simp; omega) | (exact of_decide_eq_true rfl))
              | with_reducible refine v_nT ?_
              | with_reducible refine v_nF ?_
              | with_reducible refine v_cT ?_
              | with_reducible refine v_cF ?_
              | ((with_reducible refine v_as ?_ ?_); · first | omega | decide | (dsimp only; omega) | (simp; done) | (simp; omega) | (exact of_decide_eq_true rfl))
              | ((with_reducible apply v_ix); (first | omega | decide | (simp; done) | (dsimp only [List.length_cons, List.length_nil]; omega)); (exact rfl))
              | with_reducible refine v_p2 ?_
              | with_reducible refine v_selb ?_
              | with_reducible refine v_sele ?_
              | with_reducible refine v_selrl ?_
              | with_reducible refine v_selrr ?_
              | ((with_reducible refine v_ifT ?_ ?_); · first | omega | decide | (dsimp only; omega))
              | ((with_reducible refine v_ifF ?_ ?_); · first | omega | decide | (dsimp only; omega))
              | with_reducible refine v_brk ?_
              | with_reducible refine v_esc ?_
              | dsimp only [List.nil_append, List.cons_append]
              | with_reducible refine v_f32 ?_
              | with_reducible refine v_f16 ?_
              | with_reducible refine v_f8 ?_
              | ((with_reducible refine v_w8 ?_ ?_); · omega)
              | with_reducible refine v_ix (by omega) hc ?_
              | with_reducible apply v_bi
              | with_reducible refine v_bnd ?_)
        all_goals try (refine congrArg some ?_; omega)
      · obtain ⟨m, c, hc, e, hm, g1, g2⟩ := fin 32 ((x / 4294967296)) ⟨by show _ * (4294967296 : Int) ≤ _; omega, by show _ < _ * (4294967296 : Int); omega⟩ (by omega) (by omega) (by decide)
        refine ⟨m + 32, ?_, by omega, g1, g2⟩
        unfold d_math_bits_Len64
        repeat (first
              | with_reducible exact v_end
              | ((with_reducible refine v_fin ?_); (exact rfl))
              | ((with_reducible refine v_w ?_ ?_); · first | omega | decide | (dsimp only; omega) | (simp; done) | (simp; omega))
              | ((with_reducible refine v_wu ?_ ?_); · first | omega | decide | (dsimp only; omega) | (simp; done) | (simp; omega))
              | ((with_reducible refine v_T ?_ ?_); · first | omega | decide | (dsimp only; omega) | (simp; done) | (simp; omega) | (exact of_decide_eq_true rfl))
              | ((with_reducible refine v_F ?_ ?_); · first | omega | decide | (dsimp only; omega) | (simp; done) | (simp; omega) | (exact of_decide_eq_true rfl))
              | with_reducible refine v_nT ?_
              | with_reducible refine v_nF ?_
              | with_reducible refine v_cT ?_
              | with_reducible refine v_cF ?_
              | ((with_reducible refine v_as ?_ ?_); · first | omega | decide | (dsimp only; omega) | (simp; done) | (simp; omega) | (exact of_decide_eq_true rfl))
              | ((with_reducible apply v_ix); (first | omega | decide | (simp; done) | (dsimp only [List.length_cons, List.length_nil]; omega)); (exact rfl))
              | with_reducible refine v_p2 ?_
              | with_reducible refine v_selb ?_
              | with_reducible refine v_sele ?_
              | with_reducible refine v_selrl ?_
              | with_reducible refine v_selrr ?_
              | ((with_reducible refine v_ifT ?_ ?_); · first | omega | decide | (dsimp only; omega))
              | ((with_reducible refine v_ifF ?_ ?_); · first | omega | decide | (dsimp only; omega))
              | with_reducible refine v_brk ?_
              | with_reducible refine v_esc ?_
              | dsimp only [List.nil_append, List.cons_append]
              | with_reducible refine v_f32 ?_
              | with_reducible refine v_f16 ?_
              | with_reducible refine v_f8 ?_
              | ((with_reducible refine v_w8 ?_ ?_); · omega)
              | with_reducible refine v_ix (by omega) hc ?_
              | with_reducible apply v_bi
              | with_reducible refine v_bnd ?_)
        all_goals try (refine congrArg some ?_; omega)
  · by_cases h1 : x ≥ 65536
    · by_cases h2 : (x / 65536) ≥ 256
      · obtain ⟨m, c, hc, e, hm, g1, g2⟩ := fin 24 (((x / 65536) / 256)) ⟨by show _ * (16777216 : Int) ≤ _; omega, by show _ < _ * (16777216 : Int); omega⟩ (by omega) (by omega) (by decide)
        refine ⟨m + 24, ?_, by omega, g1, g2⟩
        unfold d_math_bits_Len64
        repeat (first
              | with_reducible exact v_end
              | ((with_reducible refine v_fin ?_); (exact rfl))
              | ((with_reducible refine v_w ?_ ?_); · first | omega | decide | (dsimp only; omega) | (simp; done) | (simp; omega))
              | ((with_reducible refine v_wu ?_ ?_); · first | omega | decide | (dsimp only; omega) | (simp; done) | (simp; omega))
              | ((with_reducible refine v_T ?_ ?_); · first | omega | decide | (dsimp only; omega) | (simp; done) | (simp; omega) | (exact of_decide_eq_true rfl))
              | ((with_reducible refine v_F ?_ ?_); · first | omega | decide | (dsimp only; omega) | (simp; done) | (simp; omega) | (exact of_decide_eq_true rfl))
              | with_reducible refine v_nT ?_
              | with_reducible refine v_nF ?_
              | with_reducible refine v_cT ?_
              | with_reducible refine v_cF ?_
              | ((with_reducible refine v_as ?_ ?_); · first | omega | decide | (dsimp only; omega) | (simp; done) | (simp; omega) | (exact of_decide_eq_true rfl))
              | ((with_reducible apply v_ix); (first | omega | decide | (simp; done) | (dsimp only [List.length_cons, List.length_nil]; omega)); (exact rfl))
              | with_reducible refine v_p2 ?_
              | with_reducible refine v_selb ?_
              | with_reducible refine v_sele ?_
              | with_reducible refine v_selrl ?_
              | with_reducible refine v_selrr ?_
              | ((with_reducible refine v_ifT ?_ ?_); · first | omega | decide | (dsimp only; omega))
              | ((with_reducible refine v_ifF ?_ ?_); · first | omega | decide | (dsimp only; omega))
              | with_reducible refine v_brk ?_
              | with_reducible refine v_esc ?_
              | dsimp only [List.nil_append, List.cons_append]
              | with_reducible refine v_f32 ?_
              | with_reducible refine v_f16 ?_
              | with_reducible refine v_f8 ?_
              | ((with_reducible refine v_w8 ?_ ?_); · omega)
              | with_reducible refine v_ix (by omega) hc ?_
              | with_reducible apply v_bi
              | with_reducible refine v_bnd ?_)
        all_goals try (refine congrArg some ?_; omega)
      · obtain ⟨m, c, hc, e, hm, g1, g2⟩ := fin 16 ((x / 65536)) ⟨by show _ * (65536 : Int) ≤ _; omega, by show _ < _ * (65536 : Int); omega⟩ (by omega) (by omega) (by decide)
        refine ⟨m + 16, ?_, by omega, g1, g2⟩
        unfold d_math_bits_Len64
        repeat (first
              | with_reducible exact v_end
              | ((with_reducible refine v_fin ?_); (exact rfl))
              | ((with_reducible refine v_w ?_ ?_); · first | omega | decide | (dsimp only; omega) | (simp; done) | (simp; omega))
              | ((with_reducible refine v_wu ?_ ?_); · first | omega | decide | (dsimp only; omega) | (simp; done) | (simp; omega))
              | ((with_reducible refine v_T ?_ ?_); · first | omega | decide | (dsimp only; omega) | (simp; done) | (simp; omega) | (exact of_decide_eq_true rfl))
              | ((with_reducible refine v_F ?_ ?_); · first | omega | decide | (dsimp only; omega) | (simp; done) | (simp; omega) | (exact of_decide_eq_true rfl))
              | with_reducible refine v_nT ?_
              | with_reducible refine v_nF ?_
              | with_reducible refine v_cT ?_
              | with_reducible refine v_cF ?_
              | ((with_reducible refine v_as ?_ ?_); · first | omega | decide | (dsimp only; omega) | (simp; done) | (simp; omega) | (exact of_decide_eq_true rfl))
              | ((with_reducible apply v_ix); (first | omega | decide | (simp; done) | (dsimp only [List.length_cons, List.length_nil]; omega)); (exact rfl))
              | with_reducible refine v_p2 ?_
              | with_reducible refine v_selb ?_
              | with_reducible refine v_sele ?_
              | with_reducible refine v_selrl ?_
              | with_reducible refine v_selrr ?_
              | ((with_reducible refine v_ifT ?_ ?_); · first | omega | decide | (dsimp only; omega))
              | ((with_reducible refine v_ifF ?_ ?_); · first | omega | decide | (dsimp only; omega))
              | with_reducible refine v_brk ?_
              | with_reducible refine v_esc ?_
              | dsimp only [List.nil_append, List.cons_append]
              | with_reducible refine v_f32 ?_
              | with_reducible refine v_f16 ?_
              | with_reducible refine v_f8 ?_
              | ((with_reducible refine v_w8 ?_ ?_); · omega)
              | with_reducible refine v_ix (by omega) hc ?_
              | with_reducible apply v_bi
              | with_reducible refine v_bnd ?_)
        all_goals try (refine congrArg some ?_; omega)
    · by_cases h2 : x ≥ 256
      · obtain ⟨m, c, hc, e, hm, g1, g2⟩ := fin 8 ((x / 256)) ⟨by show _ * (256 : Int) ≤ _; omega, by show _ < _ * (256 : Int); omega⟩ (by omega) (by omega) (by decide)
        refine ⟨m + 8, ?_, by omega, g1, g2⟩
        unfold d_math_bits_Len64
        repeat (first
              | with_reducible exact v_end
              | ((with_reducible refine v_fin ?_); (exact rfl))
              | ((with_reducible refine v_w ?_ ?_); · first | omega | decide | (dsimp only; omega) | (simp; done) | (simp; omega))
              | ((with_reducible refine v_wu ?_ ?_); · first | omega | decide | (dsimp only; omega) | (simp; done) | (simp; omega))
              | ((with_reducible refine v_T ?_ ?_); · first | omega | decide | (dsimp only; omega) | (simp; done) | (simp; omega) | (exact of_decide_eq_true rfl))
              | ((with_reducible refine v_F ?_ ?_); · first | omega | decide | (dsimp only; omega) | (simp; done) | (simp; omega) | (exact of_decide_eq_true rfl))
              | with_reducible refine v_nT ?_
              | with_reducible refine v_nF ?_
              | with_reducible refine v_cT ?_
              | with_reducible refine v_cF ?_
              | ((with_reducible refine v_as ?_ ?_); · first | omega | decide | (dsimp only; omega) | (simp; done) | (simp; omega) | (exact of_decide_eq_true rfl))
              | ((with_reducible apply v_ix); (first | omega | decide | (simp; done) | (dsimp only [List.length_cons, List.length_nil]; omega)); (exact rfl))
              | with_reducible refine v_p2 ?_
              | with_reducible refine v_selb ?_
              | with_reducible refine v_sele ?_
              | with_reducible refine v_selrl ?_
              | with_reducible refine v_selrr ?_
              | ((with_reducible refine v_ifT ?_ ?_); · first | omega | decide | (dsimp only; omega))
              | ((with_reducible refine v_ifF ?_ ?_); · first | omega | decide | (dsimp only; omega))
              | with_reducible refine v_brk ?_
              | with_reducible refine v_esc ?_
              | dsimp only [List.nil_append, List.cons_append]
              | with_reducible refine v_f32 ?_
              | with_reducible refine v_f16 ?_
              | with_reducible refine v_f8 ?_
              | ((with_reducible refine v_w8 ?_ ?_); · omega)
              | with_reducible refine v_ix (by omega) hc ?_
              | with_reducible apply v_bi
              | with_reducible refine v_bnd ?_)
        all_goals try (refine congrArg some ?_; omega)
      · obtain ⟨m, c, hc, e, hm, g1, g2⟩ := fin 0 (x) ⟨by show _ * (1 : Int) ≤ _; omega, by show _ < _ * (1 : Int); omega⟩ (by omega) (by omega) (by decide)
        refine ⟨m + 0, ?_, by omega, g1, g2⟩
        unfold d_math_bits_Len64
        repeat (first
              | with_reducible exact v_end
              | ((with_reducible refine v_fin ?_); (exact rfl))
              | ((with_reducible refine v_w ?_ ?_); · first | omega | decide | (dsimp only; omega) | (simp; done) | (simp; omega))
              | ((with_reducible refine v_wu ?_ ?_); · first | omega | decide | (dsimp only; omega) | (simp; done) | (simp; omega))
              | ((with_reducible refine v_T ?_ ?_); · first | omega | decide | (dsimp only; omega) | (simp; done) | (simp; omega) | (exact of_decide_eq_true rfl))
              | ((with_reducible refine v_F ?_ ?_); · first | omega | decide | (dsimp only; omega) | (simp; done) | (simp; omega) | (exact of_decide_eq_true rfl))
              | with_reducible refine v_nT ?_
              | with_reducible refine v_nF ?_
              | with_reducible refine v_cT ?_
              | with_reducible refine v_cF ?_
              | ((with_reducible refine v_as ?_ ?_); · first | omega | decide | (dsimp only; omega) | (simp; done) | (simp; omega) | (exact of_decide_eq_true rfl))
              | ((with_reducible apply v_ix); (first | omega | decide | (simp; done) | (dsimp only [List.length_cons, List.length_nil]; omega)); (exact rfl))
              | with_reducible refine v_p2 ?_
              | with_reducible refine v_selb ?_
              | with_reducible refine v_sele ?_
              | with_reducible refine v_selrl ?_
              | with_reducible refine v_selrr ?_
              | ((with_reducible refine v_ifT ?_ ?_); · first | omega | decide | (dsimp only; omega))
              | ((with_reducible refine v_ifF ?_ ?_); · first | omega | decide | (dsimp only; omega))
              | with_reducible refine v_brk ?_
              | with_reducible refine v_esc ?_
              | dsimp only [List.nil_append, List.cons_append]
              | with_reducible refine v_f32 ?_
              | with_reducible refine v_f16 ?_
              | with_reducible refine v_f8 ?_
              | ((with_reducible refine v_w8 ?_ ?_); · omega)
              | with_reducible refine v_ix (by omega) hc ?_
              | with_reducible apply v_bi
              | with_reducible refine v_bnd ?_)
        all_goals try (refine congrArg some ?_; omega)
end Go.Pv
