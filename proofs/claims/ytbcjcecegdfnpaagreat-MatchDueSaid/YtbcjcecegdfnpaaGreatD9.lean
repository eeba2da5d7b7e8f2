/- MatchDue: what is due, of the program and of the document. -/
import Derived.Test.YtbcjcecegdfnpaaGreatD8
set_option linter.unusedSimpArgs false
set_option linter.unusedVariables false
namespace Go.Pv
open Go.Proofs
set_option maxRecDepth 100000
set_option maxHeartbeats 1000000
/-- The facts of a product that is cut to what may be. -/
theorem mul_facts {a b c : Int} (ha : 0 ≤ a ∧ a ≤ 9223372036854775807) (hb : 0 ≤ b ∧ b ≤ 9223372036854775807) (hc : 1 ≤ c ∧ c ≤ 9223372036854775807) (hq : a * b / c ≤ 288230376151711744) :
    (0 ≤ a * b / 18446744073709551616 ∧ a * b / 18446744073709551616 < c) ∧ (0 ≤ a * b % 18446744073709551616 ∧ a * b % 18446744073709551616 ≤ 18446744073709551615) ∧ a * b / 18446744073709551616 * 18446744073709551616 + a * b % 18446744073709551616 = a * b ∧
      (0 ≤ a * b / c) ∧ (0 ≤ a * b % c ∧ a * b % c < c) := by
  have h0 : 0 ≤ a * b := Int.mul_nonneg ha.1 hb.1
  have h1 : 0 ≤ a * b / c := Int.ediv_nonneg h0 (by omega)
  have h2 : 0 ≤ a * b % c := Int.emod_nonneg _ (by omega)
  have h3 : a * b % c < c := Int.emod_lt_of_pos _ (by omega)
  have h4 : c * (a * b / c) + a * b % c = a * b := Int.mul_ediv_add_emod _ _
  have h5 : c * (a * b / c) ≤ c * 288230376151711744 := Int.mul_le_mul_of_nonneg_left hq (by omega)
  generalize a * b = N at *
  generalize c * (N / c) = X at *
  refine ⟨⟨by omega, ?_⟩, by omega, by omega, h1, h2, h3⟩
  omega
theorem mul_g {n : Nat} {a b c : Int} (ha : 0 ≤ a ∧ a ≤ 9223372036854775807) (hb : 0 ≤ b ∧ b ≤ 9223372036854775807) (hc : 1 ≤ c ∧ c ≤ 9223372036854775807) (hq : a * b / c ≤ 288230376151711744) : d_money_MulDiv (n + 4) a b c = some (a * b / c, a * b % c, 0) := by
  obtain ⟨h1, h2, h3, h4, h5⟩ := mul_facts ha hb hc hq
  have hd := div64_g (n := n) hc h1 h2
  rw [h3] at hd
  unfold d_money_MulDiv
  refine v_bi (a := false) ?_ (v_cF (v_bi (wide_g ha hb) ?_))
  · exact v_F (by omega) (v_cF (v_F (by omega) (v_cF (v_F (by omega) rfl))))
  refine v_wu (by omega) (v_F (by show ¬ _ ≥ _; omega) (v_cF (v_wu (by omega) (v_bi hd (v_F (by show ¬ _ > _; omega) (v_cF (v_w (by omega) (v_w (by omega) rfl))))))))
theorem rmul_loop {n : Nat} {hi lo c N : Int} (hN : N = hi * 18446744073709551616 + lo) (h0 : 0 ≤ hi) (hl : 0 ≤ lo ∧ lo ≤ 18446744073709551615) (hc : 1 ≤ c ∧ c ≤ 9223372036854775807) (hq : N / c ≤ 288230376151711744) :
    ∀ k : Nat, k ≤ 64 → d_ref01_MulDiv_L0 (hi, lo) c (n + k + 1) (N / 2 ^ k % c) (N / 2 ^ k / c) ((k : Int) - 1) = some (N % c, N / c)
  | 0, _ => by
    have e : N / 2 ^ 0 = N := by show N / 1 = N; omega
    rw [d_ref01_MulDiv_L0, e]
    exact v_F (by omega) (v_cF rfl)
  | k + 1, hk => by
    have N0 : 0 ≤ N := by omega
    have p : (0 : Int) < 2 ^ k := Int.pow_pos (by decide)
    have p2 : (2 : Int) ^ (k + 1) = 2 ^ k * 2 := Int.pow_succ _ _
    have e1 : N / 2 ^ (k + 1) = N / 2 ^ k / 2 := by rw [p2, Int.ediv_ediv_of_nonneg (by omega)]
    have M0 : 0 ≤ N / 2 ^ k := Int.ediv_nonneg N0 (by omega)
    have MN : N / 2 ^ k ≤ N := Int.ediv_le_self _ N0
    -- the bit
    have hb : lo / 2 ^ k % 2 = N / 2 ^ k % 2 := by
      have e3 : (18446744073709551616 : Int) = 2 ^ (63 - k) * 2 * 2 ^ k := by
        have : (2 : Int) ^ (63 - k) * 2 * 2 ^ k = 2 ^ (63 - k + 1 + k) := by rw [Int.pow_add, Int.pow_succ]
        rw [this, show 63 - k + 1 + k = 64 from by omega]; decide
      have e4 : N = lo + (hi * 2 ^ (63 - k) * 2) * 2 ^ k := by
        rw [hN]
        have : hi * 18446744073709551616 = (hi * 2 ^ (63 - k) * 2) * 2 ^ k := by
          conv => lhs; rw [e3]
          grind
        omega
      rw [e4, Int.add_mul_ediv_right _ _ (by omega)]
      generalize hi * 2 ^ (63 - k) = z
      omega
    have L0 : 0 ≤ lo / 2 ^ k := Int.ediv_nonneg hl.1 (by omega)
    have L1 : lo / 2 ^ k ≤ lo := Int.ediv_le_self _ hl.1
    have hqk : N / 2 ^ k / c ≤ 288230376151711744 := Int.le_trans (Int.ediv_le_ediv (by omega) MN) hq
    have ih := rmul_loop (n := n) hN h0 hl hc hq k (by omega)
    rw [d_ref01_MulDiv_L0, e1]
    generalize N / 2 ^ k = M at *
    have q0 : 0 ≤ M / 2 / c := Int.ediv_nonneg (by omega) (by omega)
    have r0 : 0 ≤ M / 2 % c := Int.emod_nonneg _ (by omega)
    have r1 : M / 2 % c < c := Int.emod_lt_of_pos _ (by omega)
    have er : c * (M / 2 / c) + M / 2 % c = M / 2 := Int.mul_ediv_add_emod _ _
    have bit : M = 2 * (M / 2) + M % 2 := by omega
    have b01 : 0 ≤ M % 2 ∧ M % 2 ≤ 1 := by omega
    generalize hQ : M / 2 / c = Q at *
    generalize hR : M / 2 % c = R at *
    have qlt : Q ≤ 288230376151711744 := by
      rw [← hQ]
      exact Int.le_trans (Int.ediv_le_ediv (by omega) (by omega)) hqk
    have hor : ((BitVec.ofInt IntKind.u64.bits (R * 2) ||| BitVec.ofInt IntKind.u64.bits (M % 2)).toNat : Int) = R * 2 + M % 2 :=
      orK (k := 1) (t := R) (by show R * 2 = 2 * R; omega) r0 (by omega) (by show _ ∧ _ < (2 : Int); omega) (by omega)
    have hor2 : ((BitVec.ofInt IntKind.u64.bits (Q * 2) ||| BitVec.ofInt IntKind.u64.bits 1).toNat : Int) = Q * 2 + 1 :=
      orK (k := 1) (t := Q) (by show Q * 2 = 2 * Q; omega) q0 (by omega) (by decide) (by decide)
    have step : ∀ R' Q' : Int, M = Q' * c + R' → 0 ≤ R' → R' < c → M % c = R' ∧ M / c = Q' := by
      intro R' Q' h g1 g2
      constructor
      · rw [h, Int.add_comm, Int.add_mul_emod_self_right, Int.emod_eq_of_lt g1 g2]
      · rw [h, Int.add_comm, Int.add_mul_ediv_right _ _ (by omega), Int.ediv_eq_zero_of_lt g1 g2]; omega
    by_cases hge : R * 2 + M % 2 ≥ c
    · obtain ⟨s1, s2⟩ := step (R * 2 + M % 2 - c) (Q * 2 + 1) (by
        have : (Q * 2 + 1) * c = c * Q * 2 + c := by grind
        omega) (by omega) (by omega)
      refine v_T (by omega) (v_cT (v_bi (a := (R * 2 + M % 2 - c, Q * 2 + 1)) ?_ (v_p2 ?_)))
      · refine v_shl (t := 1) (y := R * 2) rfl (by decide) (P := 2) rfl (wrapu64 (by omega)) (v_eq (v := (k : Int)) (by rw [show ((k + 1 : Nat) : Int) - 1 = (k : Int) from by omega]; exact wrapu64 (by omega)) (v_as (by omega) (v_shr (t := k) (by omega) (by omega) rfl (by omega) ?_)))
        refine v_eq (v := M % 2) (by rw [and1 (x := lo / 2 ^ k) ⟨L0, by omega⟩, hb]; exact wrapu64 (by omega)) (v_orE hor (by omega) (v_shl (t := 1) (y := Q * 2) rfl (by decide) (P := 2) rfl (wrapu64 (by omega)) (v_T hge (v_cT (v_wu (by omega) (v_orE hor2 (by omega) rfl))))))
      · refine v_eq (v := (k : Int) - 1) (by rw [show ((k + 1 : Nat) : Int) - 1 - 1 = (k : Int) - 1 from by omega]; exact wrap64 (by omega)) ?_
        rw [s1, s2] at ih
        exact ih
    · obtain ⟨s1, s2⟩ := step (R * 2 + M % 2) (Q * 2) (by
        have : (Q * 2) * c = c * Q * 2 := by grind
        omega) (by omega) (by omega)
      refine v_T (by omega) (v_cT (v_bi (a := (R * 2 + M % 2, Q * 2)) ?_ (v_p2 ?_)))
      · refine v_shl (t := 1) (y := R * 2) rfl (by decide) (P := 2) rfl (wrapu64 (by omega)) (v_eq (v := (k : Int)) (by rw [show ((k + 1 : Nat) : Int) - 1 = (k : Int) from by omega]; exact wrapu64 (by omega)) (v_as (by omega) (v_shr (t := k) (by omega) (by omega) rfl (by omega) ?_)))
        exact v_eq (v := M % 2) (by rw [and1 (x := lo / 2 ^ k) ⟨L0, by omega⟩, hb]; exact wrapu64 (by omega)) (v_orE hor (by omega) (v_shl (t := 1) (y := Q * 2) rfl (by decide) (P := 2) rfl (wrapu64 (by omega)) (v_F hge (v_cF rfl))))
      · refine v_eq (v := (k : Int) - 1) (by rw [show ((k + 1 : Nat) : Int) - 1 - 1 = (k : Int) - 1 from by omega]; exact wrap64 (by omega)) ?_
        rw [s1, s2] at ih
        exact ih
theorem rmul_g {n : Nat} {a b c : Int} (ha : 0 ≤ a ∧ a ≤ 9223372036854775807) (hb : 0 ≤ b ∧ b ≤ 9223372036854775807) (hc : 1 ≤ c ∧ c ≤ 9223372036854775807) (hq : a * b / c ≤ 288230376151711744) : d_ref01_MulDiv (n + 65) a b c = some (a * b / c, a * b % c, 0) := by
  obtain ⟨h1, h2, h3, h4, h5⟩ := mul_facts ha hb hc hq
  have hl := rmul_loop (n := n) h3.symm h1.1 h2 hc hq 64 (by decide)
  have e : a * b / 2 ^ 64 = a * b / 18446744073709551616 := rfl
  have e1 : a * b / 18446744073709551616 % c = a * b / 18446744073709551616 := Int.emod_eq_of_lt h1.1 h1.2
  have e2 : a * b / 18446744073709551616 / c = 0 := Int.ediv_eq_zero_of_lt h1.1 h1.2
  rw [e, e1, e2] at hl
  unfold d_ref01_MulDiv
  refine v_bi (a := false) ?_ (v_cF (v_bi (rwide_g ha hb) ?_))
  · exact v_F (by omega) (v_cF (v_F (by omega) (v_cF (v_F (by omega) rfl))))
  refine v_wu (by omega) (v_F (by show ¬ _ ≥ _; omega) (v_cF (v_bi hl (v_p2 (v_F (by omega) (v_cF (v_w (by omega) (v_w (by omega) rfl))))))))
theorem part_eq {n : Nat} {v q m : Int} (hv : -9223372036854775808 ≤ v ∧ v ≤ 9223372036854775807) (hq : -9223372036854775808 ≤ q ∧ q ≤ 9223372036854775807) (hm : -9223372036854775808 ≤ m ∧ m ≤ 9223372036854775807) :
    ∃ r, d_money_Part (n + 65) v q m = some r ∧ d_ref01_Part (n + 65) v q m = some r := by
  have hinT : (v ≥ -288230376151711744 ∧ v ≤ 288230376151711744) → d_money_in v = some true := fun h => v_bi (v_T h.1 (v_cT (v_T h.2 rfl))) rfl
  have hinF : ¬ (v ≥ -288230376151711744 ∧ v ≤ 288230376151711744) → d_money_in v = some false := by
    intro h
    by_cases c1 : v ≥ -288230376151711744
    · exact v_bi (v_T c1 (v_cT (v_F (fun c2 => h ⟨c1, c2⟩) rfl))) rfl
    · exact v_bi (v_F c1 (v_cF rfl)) rfl
  have hinT2 : (v ≥ -288230376151711744 ∧ v ≤ 288230376151711744) → d_ref01_In v = some true := hinT
  have hinF2 : ¬ (v ≥ -288230376151711744 ∧ v ≤ 288230376151711744) → d_ref01_In v = some false := hinF
  unfold d_money_Part d_ref01_Part
  by_cases c1 : m < 1
  · exact ⟨0, v_bi (v_T c1 (v_cT rfl)) (v_cT rfl), v_bi (v_T c1 (v_cT rfl)) (v_cT rfl)⟩
  by_cases c2 : q < 0
  · exact ⟨0, v_bi (v_F c1 (v_cF (v_T c2 (v_cT rfl)))) (v_cT rfl), v_bi (v_F c1 (v_cF (v_T c2 (v_cT rfl)))) (v_cT rfl)⟩
  by_cases c3 : q > m
  · exact ⟨0, v_bi (v_F c1 (v_cF (v_F c2 (v_cF (v_T c3 (v_cT rfl)))))) (v_cT rfl), v_bi (v_F c1 (v_cF (v_F c2 (v_cF (v_T c3 (v_cT rfl)))))) (v_cT rfl)⟩
  by_cases c4 : v ≥ -288230376151711744 ∧ v ≤ 288230376151711744
  · have bound : ∀ w : Int, 0 ≤ w → w ≤ 288230376151711744 → w * q / m ≤ 288230376151711744 := by
      intro w w0 w1
      refine Int.le_trans (Int.ediv_le_of_le_mul (by omega) (Int.mul_le_mul_of_nonneg_left (show q ≤ m by omega) w0)) w1
    rw [hinT c4, hinT2 c4]
    have hb : ∀ {β : Type} {f : Bool → Option β} {r : Option β}, f false = r → ((bnd (decide (m < 1)) fun x5 => cond x5 (some true) (bnd (decide (q < 0)) fun x6 => cond x6 (some true) (bnd (decide (q > m)) fun x7 => cond x7 (some true) ((some true).bind fun x8 => bnd (!x8) fun x9 => some x9)))).bind f) = r := by
      intro β f r h
      exact v_bi (v_F c1 (v_cF (v_F c2 (v_cF (v_F c3 (v_cF rfl)))))) h
    by_cases c6 : v < 0
    · have h1 := mul_g (n := n + 61) (a := 0 - v) (b := q) (c := m) (by omega) (by omega) (by omega) (bound _ (by omega) (by omega))
      have h2 := rmul_g (n := n) (a := 0 - v) (b := q) (c := m) (by omega) (by omega) (by omega) (bound _ (by omega) (by omega))
      have k0 : 0 ≤ (0 - v) * q / m := Int.ediv_nonneg (Int.mul_nonneg (by omega) (by omega)) (by omega)
      have k1 := bound (0 - v) (by omega) (by omega)
      by_cases c5 : q = m
      · have e : (0 - v) * q / m = 0 - v := by rw [c5]; exact Int.mul_ediv_cancel _ (by omega)
        refine ⟨v, hb (v_cF (v_T c5 (v_cT rfl))), hb (v_cF (v_T c6 (v_cT (v_w (by omega) (v_bi h2 (v_w (by omega) ?_))))))⟩
        refine congrArg some ?_; show 0 - (0 - v) * q / m = v; omega
      · exact ⟨0 - (0 - v) * q / m, hb (v_cF (v_F c5 (v_cF (v_T c6 (v_cT (v_w (by omega) (v_bi h1 (v_w (by omega) rfl)))))))), hb (v_cF (v_T c6 (v_cT (v_w (by omega) (v_bi h2 (v_w (by omega) rfl))))))⟩
    · have h1 := mul_g (n := n + 61) (a := v) (b := q) (c := m) (by omega) (by omega) (by omega) (bound _ (by omega) (by omega))
      have h2 := rmul_g (n := n) (a := v) (b := q) (c := m) (by omega) (by omega) (by omega) (bound _ (by omega) (by omega))
      by_cases c5 : q = m
      · have e : v * q / m = v := by rw [c5]; exact Int.mul_ediv_cancel _ (by omega)
        refine ⟨v, hb (v_cF (v_T c5 (v_cT rfl))), hb (v_cF (v_F c6 (v_cF (v_bi h2 ?_))))⟩
        exact congrArg some e
      · exact ⟨v * q / m, hb (v_cF (v_F c5 (v_cF (v_F c6 (v_cF (v_bi h1 rfl)))))), hb (v_cF (v_F c6 (v_cF (v_bi h2 rfl))))⟩
  · refine ⟨0, v_bi (a := true) ?_ (v_cT rfl), v_bi (a := true) ?_ (v_cT rfl)⟩
    · rw [hinF c4]; exact v_F c1 (v_cF (v_F c2 (v_cF (v_F c3 (v_cF rfl)))))
    · rw [hinF2 c4]; exact v_F c1 (v_cF (v_F c2 (v_cF (v_F c3 (v_cF rfl)))))
theorem aw18 : d_law18_awake 70 = some true := by decide +kernel
theorem matchDue_plain {r : GReceipt} {q : Int} (h1 : -9223372036854775808 ≤ r.Accrued ∧ r.Accrued ≤ 9223372036854775807) (h2 : -9223372036854775808 ≤ r.Open ∧ r.Open ≤ 9223372036854775807) (hq : -9223372036854775808 ≤ q ∧ q ≤ 9223372036854775807) : d_law18_MatchDue 70 r q = some true := by
  obtain ⟨x, e1, e2⟩ := part_eq (n := 5) h1 hq h2
  have key : ∃ x, d_match_Due 70 r q = some x ∧ d_ref18_Due 70 r q = some x := by
    unfold d_match_Due d_match_due_open d_ref18_Due
    by_cases c : q = r.Open
    · exact ⟨r.Accrued, v_bi (v_T c (v_cT rfl)) rfl, v_T c (v_cT rfl)⟩
    · exact ⟨x, v_bi (v_F c (v_cF (v_bi e1 rfl))) rfl, v_F c (v_cF (v_bi e2 rfl))⟩
  obtain ⟨x, k1, k2⟩ := key
  unfold d_law18_MatchDue
  exact v_bi (v_bi k1 (v_bi k2 (v_T rfl (v_cT (v_bi aw18 rfl))))) rfl
end Go.Pv
