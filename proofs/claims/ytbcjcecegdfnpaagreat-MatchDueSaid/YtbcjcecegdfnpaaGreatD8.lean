/- A double number cut by a number. -/
import Derived.Test.YtbcjcecegdfnpaaGreatD7
set_option linter.unusedSimpArgs false
set_option linter.unusedVariables false
namespace Go.Pv
open Go.Proofs
set_option maxRecDepth 100000
set_option maxHeartbeats 1000000
section
variable {β : Type}
theorem v_eq {α : Type} {e v : α} {f : α → Option β} {r : Option β} (he : e = v) (h : f v = r) : bnd e f = r := by subst he; exact h
theorem v_shl {a e P y : Int} {t : Nat} {f : Int → Option β} {r : Option β} (he : e.toNat = t) (ht : t ≤ 64) (hP : (2 : Int) ^ t = P) (hy : wu64 (a * P) = y) (h : f y = r) : bnd (wu64 (a * (2 ^ (min e.toNat IntKind.u64.bits)))) f = r := by
  have : min e.toNat IntKind.u64.bits = t := by rw [he]; show min t 64 = t; omega
  show f (wu64 (a * (2 ^ (min e.toNat IntKind.u64.bits)))) = r
  rw [this, hP, hy]; exact h
theorem v_shr {a e P : Int} {t : Nat} {f : Int → Option β} {r : Option β} (he : e.toNat = t) (ht : t ≤ 64) (hP : (2 : Int) ^ t = P) (h0 : 0 ≤ P) (h : f (a / P) = r) : bnd (a.fdiv (2 ^ (min e.toNat IntKind.u64.bits))) f = r := by
  have : min e.toNat IntKind.u64.bits = t := by rw [he]; show min t 64 = t; omega
  show f (a.fdiv (2 ^ (min e.toNat IntKind.u64.bits))) = r
  rw [this, hP, Int.fdiv_eq_ediv_of_nonneg a h0]; exact h
theorem v_and32 {x : Int} {f : Int → Option β} {r : Option β} (hx : 0 ≤ x ∧ x ≤ 18446744073709551615) (h : f (x % 4294967296) = r) : bnd (wu64 ((BitVec.ofInt IntKind.u64.bits x &&& BitVec.ofInt IntKind.u64.bits 4294967295).toNat : Int)) f = r := by
  show f (wu64 _) = r
  rw [and32 hx, show wu64 (x % 4294967296) = x % 4294967296 from wrapu64 (by omega)]; exact h
theorem v_orE {a b v : Int} {f : Int → Option β} {r : Option β} (hv : ((BitVec.ofInt IntKind.u64.bits a ||| BitVec.ofInt IntKind.u64.bits b).toNat : Int) = v) (hr : 0 ≤ v ∧ v ≤ 18446744073709551615) (h : f v = r) : bnd (wu64 ((BitVec.ofInt IntKind.u64.bits a ||| BitVec.ofInt IntKind.u64.bits b).toNat : Int)) f = r := by
  show f (wu64 _) = r
  rw [hv, show wu64 v = v from wrapu64 hr]; exact h
end
theorem div_v0 {n : Nat} {a b : Int} (ha : 0 ≤ a ∧ a ≤ 18446744073709551615) (hb : 1 ≤ b ∧ b ≤ 9223372036854775807) : d_math_bits_Div64 n 0 a b = some (a / b, a % b) := by
  have h1 : 0 ≤ a / b ∧ a / b ≤ a := ⟨Int.ediv_nonneg ha.1 (by omega), Int.ediv_le_self _ ha.1⟩
  unfold d_math_bits_Div64
  refine v_F (by omega) (v_cF (v_F (by omega) (v_cF (v_T rfl (v_cT (v_as (by omega) (v_eq (v := a / b) ?_ (v_as (by omega) (v_eq (v := a % b) ?_ rfl)))))))))
  · rw [Int.tdiv_eq_ediv_of_nonneg ha.1]; exact wrapu64 (by omega)
  · exact Int.tmod_eq_emod_of_nonneg ha.1
/-- The sums behind it. -/
theorem knuth_sum {hi lo c P R y u w : Int} (hc : 1 ≤ c) (hh : 0 ≤ hi ∧ hi < c) (hl : 0 ≤ lo ∧ lo ≤ 18446744073709551615) (hP : 1 ≤ P) (hR : 1 ≤ R) (hPR : P * R = 18446744073709551616) (hy : y = c * P) (hu : u = hi * P + lo / R) (hw : w = (lo % R) * P) :
    (hi * 18446744073709551616 + lo) * P = u * 18446744073709551616 + w ∧ 0 ≤ u ∧ u < y ∧ 0 ≤ w ∧ w < 18446744073709551616 ∧ 0 ≤ hi * P ∧ hi * P < y ∧ 0 ≤ lo / R ∧ lo / R < P ∧ lo * P = lo / R * 18446744073709551616 + w := by
  have h1 : 0 ≤ lo % R ∧ lo % R < R := ⟨Int.emod_nonneg _ (by omega), Int.emod_lt_of_pos _ (by omega)⟩
  have h2 : lo = R * (lo / R) + lo % R := (Int.mul_ediv_add_emod lo R).symm
  have h3 : 0 ≤ lo / R := Int.ediv_nonneg hl.1 (by omega)
  have h4 : lo / R < P := Int.ediv_lt_of_lt_mul (by omega) (by omega)
  have h5 : 0 ≤ hi * P := Int.mul_nonneg hh.1 (by omega)
  have h6 : hi * P ≤ (c - 1) * P := Int.mul_le_mul_of_nonneg_right (by omega) (by omega)
  have h7 : (c - 1) * P = y - P := by rw [hy]; grind
  have h8 : 0 ≤ w := by rw [hw]; exact Int.mul_nonneg h1.1 (by omega)
  have h9 : w ≤ (R - 1) * P := by rw [hw]; exact Int.mul_le_mul_of_nonneg_right (by omega) (by omega)
  have h10 : (R - 1) * P = 18446744073709551616 - P := by rw [← hPR]; grind
  have h11 : lo * P = lo / R * 18446744073709551616 + w := by
    rw [hw, ← hPR]
    generalize lo / R = t at *
    generalize lo % R = v at *
    rw [h2]; grind
  refine ⟨?_, by omega, by omega, h8, by omega, h5, by omega, h3, h4, h11⟩
  have : (hi * 18446744073709551616 + lo) * P = hi * P * 18446744073709551616 + lo * P := by grind
  rw [this, h11, hu]; grind
theorem knuth_end {N c P y q1 q0 u d1 d0 u2 r0 w : Int} (hc : 1 ≤ c) (hP : 1 ≤ P) (hy : y = c * P) (hN : N * P = u * 18446744073709551616 + w) (hw : w = d1 * 4294967296 + d0) (h1 : u * 4294967296 + d1 = q1 * y + u2) (h2 : u2 * 4294967296 + d0 = q0 * y + r0) (hr : 0 ≤ r0 ∧ r0 < y) :
    q1 * 4294967296 + q0 = N / c ∧ r0 / P = N % c := by
  have e1 : N * P = (q1 * 4294967296 + q0) * y + r0 := by rw [hN, hw]; grind
  have e2 : r0 = (N - (q1 * 4294967296 + q0) * c) * P := by
    have : (N - (q1 * 4294967296 + q0) * c) * P = N * P - (q1 * 4294967296 + q0) * (c * P) := by grind
    rw [this, ← hy]; omega
  generalize hM : N - (q1 * 4294967296 + q0) * c = M at *
  have m0 : 0 ≤ M := by
    rcases Int.lt_or_le M 0 with h | h
    · have : M * P < 0 := Int.mul_neg_of_neg_of_pos h (by omega)
      omega
    · exact h
  have m1 : M < c := by
    apply Int.lt_of_mul_lt_mul_right (a := P) _ (by omega)
    rw [← e2, ← hy]; exact hr.2
  have e3 : N = M + (q1 * 4294967296 + q0) * c := by omega
  constructor
  · rw [e3, Int.add_mul_ediv_right _ _ (by omega), Int.ediv_eq_zero_of_lt m0 m1]; omega
  · rw [e3, Int.add_mul_emod_self_right, Int.emod_eq_of_lt m0 m1, e2, Int.mul_ediv_cancel _ (by omega)]
theorem lz_v {c : Int} (hc : 1 ≤ c ∧ c ≤ 9223372036854775807) : ∃ s : Nat, d_math_bits_LeadingZeros64 c = some (s : Int) ∧ 1 ≤ s ∧ s ≤ 63 ∧ 9223372036854775808 ≤ c * 2 ^ s ∧ c * 2 ^ s < 18446744073709551616 := by
  obtain ⟨L, hL, L63, g1, g2⟩ := len_v (x := c) ⟨hc.1, by omega⟩
  have L62 : L ≤ 62 := by
    rcases Nat.lt_or_ge L 63 with h | h
    · omega
    · have : L = 63 := by omega
      subst this
      have : (2 : Int) ^ 63 = 9223372036854775808 := by decide
      omega
  have p : (0 : Int) ≤ 2 ^ (63 - L) := Int.pow_nonneg (by decide)
  have p' : (0 : Int) < 2 ^ (63 - L) := Int.pow_pos (by decide)
  have e1 : (2 : Int) ^ L * 2 ^ (63 - L) = 9223372036854775808 := by rw [← Int.pow_add, show L + (63 - L) = 63 from by omega]; decide
  have e2 : (2 : Int) ^ (L + 1) * 2 ^ (63 - L) = 18446744073709551616 := by rw [← Int.pow_add, show L + 1 + (63 - L) = 64 from by omega]; decide
  refine ⟨63 - L, ?_, by omega, by omega, ?_, ?_⟩
  · unfold d_math_bits_LeadingZeros64
    refine v_bi hL (v_eq (v := ((63 - L : Nat) : Int)) ?_ rfl)
    rw [show (64 : Int) - ((L : Int) + 1) = ((63 - L : Nat) : Int) from by omega]
    exact wrap64 (by omega)
  · rw [← e1]; exact Int.mul_le_mul_of_nonneg_right g1 p
  · rw [← e2]; exact Int.mul_lt_mul_of_pos_right g2 p'
theorem div64_g {n : Nat} {hi lo c : Int} (hc : 1 ≤ c ∧ c ≤ 9223372036854775807) (hh : 0 ≤ hi ∧ hi < c) (hl : 0 ≤ lo ∧ lo ≤ 18446744073709551615) : d_math_bits_Div64 (n + 4) hi lo c = some ((hi * 18446744073709551616 + lo) / c, (hi * 18446744073709551616 + lo) % c) := by
  by_cases h0 : hi = 0
  · rw [h0, div_v0 hl hc, Int.zero_mul, Int.zero_add]
  · obtain ⟨s, hs, s1, s63, y1, y2⟩ := lz_v hc
    generalize hP : (2 : Int) ^ s = P at *
    generalize hR : (2 : Int) ^ (64 - s) = R
    have hP1 : 1 ≤ P := by rw [← hP]; have : (0 : Int) < 2 ^ s := Int.pow_pos (by decide); omega
    have hR1 : 1 ≤ R := by rw [← hR]; have : (0 : Int) < 2 ^ (64 - s) := Int.pow_pos (by decide); omega
    have hPR : P * R = 18446744073709551616 := by rw [← hP, ← hR, ← Int.pow_add, show s + (64 - s) = 64 from by omega]; decide
    generalize hy : c * P = y at *
    generalize hu : hi * P + lo / R = u
    generalize hw : (lo % R) * P = w
    obtain ⟨k1, k2, k3, k4, k5, k6, k7, k8, k9, k10⟩ := knuth_sum hc.1 hh hl hP1 hR1 hPR hy.symm hu.symm hw.symm
    have ww : wu64 (lo * P) = w := by rw [wmod, k10]; omega
    have hor : ((BitVec.ofInt IntKind.u64.bits (hi * P) ||| BitVec.ofInt IntKind.u64.bits (lo / R)).toNat : Int) = u := by
      rw [orK (k := s) (t := hi) (by rw [hP]; exact Int.mul_comm _ _) hh.1 (by omega) (by rw [hP]; omega) (by omega), hu]
    -- the first digit
    have hyy : y = y / 4294967296 * 4294967296 + y % 4294967296 := by omega
    generalize hy1 : y / 4294967296 = b1 at *
    generalize hy0 : y % 4294967296 = b0 at *
    have B1 : 2147483648 ≤ b1 ∧ b1 < 4294967296 := by omega
    have B0 : 0 ≤ b0 ∧ b0 < 4294967296 := by omega
    have hww : w = w / 4294967296 * 4294967296 + w % 4294967296 := by omega
    generalize hd1 : w / 4294967296 = d1 at *
    generalize hd0 : w % 4294967296 = d0 at *
    have D1 : 0 ≤ d1 ∧ d1 < 4294967296 := by omega
    have D0 : 0 ≤ d0 ∧ d0 < 4294967296 := by omega
    have digit : ∀ u d : Int, 0 ≤ u → u < y → 0 ≤ d → d < 4294967296 → ∃ q r Q v : Int, wu64 (u.tdiv b1) = q ∧ wu64 (q * b1) = q * b1 ∧ wu64 (u - q * b1) = r ∧ u = q * b1 + r ∧ (u * 4294967296 + d) / y ≤ q ∧ 0 ≤ r ∧ r < 4294967296 ∧ q ≤ 18446744073709551615 ∧
        (u * 4294967296 + d) / y = Q ∧ u * 4294967296 + d = Q * y + v ∧ 0 ≤ v ∧ v < y ∧ 0 ≤ Q ∧ Q < 4294967296 ∧ wu64 (wu64 (wu64 (u * 4294967296) + d) - wu64 (Q * y)) = v := by
      intro u d u0 u1 d0 d1
      have q0 : 0 ≤ u / b1 := Int.ediv_nonneg u0 (by omega)
      have q1 : u / b1 ≤ u := Int.ediv_le_self _ u0
      have r0 : 0 ≤ u % b1 := Int.emod_nonneg _ (by omega)
      have r1 : u % b1 < b1 := Int.emod_lt_of_pos _ (by omega)
      have e : b1 * (u / b1) + u % b1 = u := Int.mul_ediv_add_emod u b1
      have ec : b1 * (u / b1) = u / b1 * b1 := Int.mul_comm _ _
      have qb : 0 ≤ u / b1 * b1 := Int.mul_nonneg q0 (by omega)
      have Q0 : 0 ≤ (u * 4294967296 + d) / y := Int.ediv_nonneg (by omega) (by omega)
      have QB : (u * 4294967296 + d) / y < 4294967296 := by
        apply Int.ediv_lt_of_lt_mul (by omega)
        have : 4294967296 * y = y * 4294967296 := Int.mul_comm _ _
        omega
      have v0 : 0 ≤ (u * 4294967296 + d) % y := Int.emod_nonneg _ (by omega)
      have v1 : (u * 4294967296 + d) % y < y := Int.emod_lt_of_pos _ (by omega)
      have ev : y * ((u * 4294967296 + d) / y) + (u * 4294967296 + d) % y = u * 4294967296 + d := Int.mul_ediv_add_emod _ _
      have evc : y * ((u * 4294967296 + d) / y) = (u * 4294967296 + d) / y * y := Int.mul_comm _ _
      have hq : (u * 4294967296 + d) / y ≤ u / b1 := by
        generalize hQ : (u * 4294967296 + d) / y = Q at *
        apply Int.le_ediv_of_mul_le (by omega)
        have e3 : Q * y = Q * b1 * 4294967296 + Q * b0 := by
          have : y = b1 * 4294967296 + b0 := hyy
          rw [this]; grind
        have e4 : 0 ≤ Q * b0 := Int.mul_nonneg Q0 B0.1
        have e5 : Q * y ≤ u * 4294967296 + d := by rw [← evc, ← ev]; exact Int.le_add_of_nonneg_right v0
        clear ev evc
        generalize Q * b1 = X at *
        generalize Q * b0 = Z at *
        generalize Q * y = W at *
        clear q0 q1 r0 r1 e ec v0 v1 QB k1 k10 hww
        omega
      refine ⟨u / b1, u % b1, _, _, ?_, ?_, ?_, by omega, hq, r0, by omega, by omega, rfl, by rw [← evc]; exact ev.symm, v0, v1, Q0, QB, ?_⟩
      · rw [Int.tdiv_eq_ediv_of_nonneg u0]; exact wrapu64 (by omega)
      · exact wrapu64 (by omega)
      · rw [show u - u / b1 * b1 = u % b1 from by omega]; exact wrapu64 (by omega)
      · generalize (u * 4294967296 + d) / y * y = X at *
        generalize (u * 4294967296 + d) % y = v at *
        simp only [wmod]; omega
    obtain ⟨qa, ra, Q1, u2, a1, a2, a3, a4, a5, a6, a7, a8, a9, a10, a11, a12, a13, a14, a15⟩ := digit u d1 k2 k3 D1.1 D1.2
    obtain ⟨qb, rb, Q2, r0, c1, c2, c3, c4, c5, c6, c7, c8, c9, c10, c11, c12, c13, c14, c15⟩ := digit u2 d0 a11 a12 D0.1 D0.2
    have l0 := dL0 (n := n + 2) hyy B0 B1 ⟨k2, k3⟩ D1 2 qa ra a4 a5 a6 a7 (by omega) a8
    have l1 := dL1 (n := n + 2) hyy B0 B1 ⟨a11, a12⟩ D0 2 qb rb c4 c5 c6 c7 (by omega) c8
    rw [a9] at l0
    rw [c9] at l1
    obtain ⟨z1, z2⟩ := knuth_end hc.1 hP1 hy.symm k1 hww a10 c10 ⟨c11, c12⟩
    unfold d_math_bits_Div64
    refine v_F (by omega) (v_cF (v_F (by omega) (v_cF (v_F h0 (v_cF (v_bi hs ?_))))))
    refine v_wu (by omega) (v_as (by omega) (v_shl (t := s) (y := y) (by omega) (by omega) hP (by rw [hy]; exact wrapu64 (by omega)) ?_))
    refine v_f32 (v_and32 (by omega) (v_as (by omega) (v_shl (t := s) (y := hi * P) (by omega) (by omega) hP (wrapu64 (by omega)) ?_)))
    refine v_wu (by omega) (v_as (by omega) (v_shr (t := 64 - s) (by omega) (by omega) hR (by omega) ?_))
    refine v_orE hor (by omega) (v_as (by omega) (v_shl (t := s) (by omega) (by omega) hP ww ?_))
    refine v_f32 (v_and32 (by omega) ?_)
    rw [hy1, hy0, hd1, hd0]
    refine v_as (by omega) (v_eq a1 (v_eq a2 (v_eq a3 (v_bi l0 ?_))))
    refine v_bnd (v_bnd (v_bnd (v_eq a15 ?_)))
    refine v_as (by omega) (v_eq c1 (v_eq c2 (v_eq c3 (v_bi l1 ?_))))
    refine v_wu (by omega) (v_wu (by omega) (v_bnd (v_bnd (v_bnd (v_eq c15 (v_as (by omega) (v_shr (t := s) (by omega) (by omega) hP (by omega) ?_)))))))
    rw [z1, z2]
end Go.Pv
