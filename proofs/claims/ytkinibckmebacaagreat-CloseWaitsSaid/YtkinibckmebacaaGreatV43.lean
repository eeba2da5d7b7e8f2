/- Products cut, of the document, in CloseWaits. -/
import Derived.Test.YtkinibckmebacaaGreatD43
import Derived.Test.YtkinibckmebacaaGreatD1
set_option linter.unusedSimpArgs false
set_option linter.unusedVariables false
namespace Go.Pv
open Go.Proofs
set_option maxRecDepth 100000
set_option maxHeartbeats 1000000
theorem wmod (x : Int) : wu64 x = x % 18446744073709551616 := wrapu64_mod x
theorem wide_fin {p q r s ab : Int} (bp : 0 ≤ p ∧ p ≤ 18446744065119617025) (bq : 0 ≤ q ∧ q ≤ 9223372030412324865) (br : 0 ≤ r ∧ r ≤ 9223372030412324865) (bs : 0 ≤ s ∧ s ≤ 4611686014132420609) (e : ab = s * 18446744073709551616 + (q + r) * 4294967296 + p) :
    ((s + q / 4294967296) % 18446744073709551616 + r / 4294967296) % 18446744073709551616 = s + q / 4294967296 + r / 4294967296 ∧ s + q / 4294967296 + r / 4294967296 + (p / 4294967296 + q % 4294967296 + r % 4294967296) / 4294967296 = ab / 18446744073709551616 ∧
      0 ≤ ab / 18446744073709551616 ∧ ab / 18446744073709551616 < 18446744073709551616 ∧ (p / 4294967296 + q % 4294967296 + r % 4294967296) % 4294967296 * 4294967296 + p % 4294967296 = ab % 18446744073709551616 := by
  have hp : p = p / 4294967296 * 4294967296 + p % 4294967296 := by omega
  have hq : q = q / 4294967296 * 4294967296 + q % 4294967296 := by omega
  have hr : r = r / 4294967296 * 4294967296 + r % 4294967296 := by omega
  have hp0 : 0 ≤ p % 4294967296 ∧ p % 4294967296 < 4294967296 := by omega
  have hp1 : 0 ≤ p / 4294967296 ∧ p / 4294967296 < 4294967296 := by omega
  have hq0 : 0 ≤ q % 4294967296 ∧ q % 4294967296 < 4294967296 := by omega
  have hq1 : 0 ≤ q / 4294967296 ∧ q / 4294967296 < 4294967296 := by omega
  have hr0 : 0 ≤ r % 4294967296 ∧ r % 4294967296 < 4294967296 := by omega
  have hr1 : 0 ≤ r / 4294967296 ∧ r / 4294967296 < 4294967296 := by omega
  generalize p / 4294967296 = p1 at *
  generalize p % 4294967296 = p0 at *
  generalize q / 4294967296 = q1 at *
  generalize q % 4294967296 = q0 at *
  generalize r / 4294967296 = r1 at *
  generalize r % 4294967296 = r0 at *
  have hm : p1 + q0 + r0 = (p1 + q0 + r0) / 4294967296 * 4294967296 + (p1 + q0 + r0) % 4294967296 := by omega
  have hm0 : 0 ≤ (p1 + q0 + r0) % 4294967296 ∧ (p1 + q0 + r0) % 4294967296 < 4294967296 := by omega
  have hm1 : 0 ≤ (p1 + q0 + r0) / 4294967296 ∧ (p1 + q0 + r0) / 4294967296 ≤ 2 := by omega
  generalize (p1 + q0 + r0) / 4294967296 = m1 at *
  generalize (p1 + q0 + r0) % 4294967296 = m0 at *
  have hab : ab = (s + q1 + r1 + m1) * 18446744073709551616 + (m0 * 4294967296 + p0) := by omega
  have h1 : ab / 18446744073709551616 = s + q1 + r1 + m1 := by omega
  have h2 : ab % 18446744073709551616 = m0 * 4294967296 + p0 := by omega
  rw [h1, h2]
  refine ⟨?_, rfl, ?_, ?_, rfl⟩ <;> omega
theorem f32 (x : Int) : x.fdiv (2 ^ (min (32 : Int).toNat IntKind.u64.bits)) = x / 4294967296 := by
  show x.fdiv 4294967296 = _
  exact Int.fdiv_eq_ediv_of_nonneg x (by decide)
theorem s32 (x : Int) : x * (2 ^ (min (32 : Int).toNat IntKind.u64.bits)) = x * 4294967296 := rfl
theorem rwide_g {a b : Int} (ha : 0 ≤ a ∧ a ≤ 9223372036854775807) (hb : 0 ≤ b ∧ b ≤ 9223372036854775807) : d_ref01_Wide a b = some (a * b / 18446744073709551616, a * b % 18446744073709551616) := by
  obtain ⟨p, q, r, s, hp, hq, hr, hs, bp, bq, br, bs, e⟩ := wide4 ha hb
  have wa : wu64 a = a := wrapu64 (by omega)
  have wb : wu64 b = b := wrapu64 (by omega)
  have t1 : wu64 (a % 4294967296) = a % 4294967296 := wrapu64 (by omega)
  have t2 : wu64 (b % 4294967296) = b % 4294967296 := wrapu64 (by omega)
  have wp : wu64 (a % 4294967296 * (b % 4294967296)) = p := by rw [← hp]; exact wrapu64 (by omega)
  have wq : wu64 (a / 4294967296 * (b % 4294967296)) = q := by rw [← hq]; exact wrapu64 (by omega)
  have wr : wu64 (a % 4294967296 * (b / 4294967296)) = r := by rw [← hr]; exact wrapu64 (by omega)
  have ws : wu64 (a / 4294967296 * (b / 4294967296)) = s := by rw [← hs]; exact wrapu64 (by omega)
  have wd : wu64 (r % 4294967296) = r % 4294967296 := wrapu64 (by omega)
  have wd2 : wu64 (q % 4294967296) = q % 4294967296 := wrapu64 (by omega)
  have wd3 : wu64 (p % 4294967296) = p % 4294967296 := wrapu64 (by omega)
  have we : wu64 (p / 4294967296 + r % 4294967296) = p / 4294967296 + r % 4294967296 := wrapu64 (by omega)
  have wf : wu64 (p / 4294967296 + r % 4294967296 + q % 4294967296) = p / 4294967296 + r % 4294967296 + q % 4294967296 := wrapu64 (by omega)
  have hor : ((BitVec.ofInt IntKind.u64.bits (wu64 ((p / 4294967296 + r % 4294967296 + q % 4294967296) * 4294967296)) ||| BitVec.ofInt IntKind.u64.bits (p % 4294967296)).toNat : Int) = wu64 ((p / 4294967296 + r % 4294967296 + q % 4294967296) * 4294967296) + p % 4294967296 :=
    orK (k := 32) (t := wu64 ((p / 4294967296 + r % 4294967296 + q % 4294967296) * 4294967296) / 4294967296) (by rw [wmod]; show _ = 4294967296 * _; omega) (by rw [wmod]; omega) (by rw [wmod]; omega) (by show _ ∧ _ < (4294967296 : Int); omega) (by omega)
  simp only [d_ref01_Wide, bnd, wa, wb, f32, s32, and32 (x := a) (by omega), and32 (x := b) (by omega), t1, t2, wp, wq, wr, ws, and32 (x := p) (by omega), and32 (x := q) (by omega), and32 (x := r) (by omega), wd, wd2, wd3, we, wf, hor]
  obtain ⟨k1, k2, k3, k4, k5⟩ := wide_fin (ab := a * b) bp br bq bs (by rw [e, Int.add_comm q r])
  simp only [wmod]
  rw [k1, k2, Int.emod_eq_of_lt k3 k4, ← k5]
  have k6 : ((p / 4294967296 + r % 4294967296 + q % 4294967296) * 4294967296 % 18446744073709551616 + p % 4294967296) % 18446744073709551616 = (p / 4294967296 + r % 4294967296 + q % 4294967296) % 4294967296 * 4294967296 + p % 4294967296 := by omega
  rw [k6]
section
variable {β : Type}
theorem v_eq {α : Type} {e v : α} {f : α → Option β} {r : Option β} (he : e = v) (h : f v = r) : bnd e f = r := by subst he; exact h
theorem v_shl {a e P y : Int} {t : Nat} {f : Int → Option β} {r : Option β} (he : e.toNat = t) (ht : t ≤ 64) (hP : (2 : Int) ^ t = P) (hy : wu64 (a * P) = y) (h : f y = r) : bnd (wu64 (a * (2 ^ (min e.toNat IntKind.u64.bits)))) f = r := by
  have : min e.toNat IntKind.u64.bits = t := by rw [he]; show min t 64 = t; omega
  show f (wu64 (a * (2 ^ (min e.toNat IntKind.u64.bits)))) = r
  rw [this, hP, hy]; exact h
theorem v_shr {a e P : Int} {t : Nat} {f : Int → Option β} {r : Option β} (he : e.toNat = t) (ht : t ≤ 64) (hP : (2 : Int) ^ t = P) (h0 : 0 ≤ P) (h : f (a / P) = r) : bnd (a.fdiv (2 ^ (min e.toNat IntKind.u64.bits))) f = r := by
  have : min e.toNat IntKind.u64.bits = t := by rw [he]; show min t 64 = t; omega
  show f (a.fdiv (2 ^ (min e.toNat IntKind.u64.bits))) = r
  rw [this, hP, Int.fdiv_eq_ediv_of_nonneg a h0]; exact h
theorem v_orE {a b v : Int} {f : Int → Option β} {r : Option β} (hv : ((BitVec.ofInt IntKind.u64.bits a ||| BitVec.ofInt IntKind.u64.bits b).toNat : Int) = v) (hr : 0 ≤ v ∧ v ≤ 18446744073709551615) (h : f v = r) : bnd (wu64 ((BitVec.ofInt IntKind.u64.bits a ||| BitVec.ofInt IntKind.u64.bits b).toNat : Int)) f = r := by
  show f (wu64 _) = r
  rw [hv, show wu64 v = v from wrapu64 hr]; exact h
end
theorem mul_facts {a b c : Int} (ha : 0 ≤ a ∧ a ≤ 9223372036854775807) (hb : 0 ≤ b ∧ b ≤ 9223372036854775807) (hc : 1 ≤ c ∧ c ≤ 9223372036854775807) (hq : a * b / c ≤ 288230376151711744) :
    (0 ≤ a * b / 18446744073709551616 ∧ a * b / 18446744073709551616 < c) ∧ (0 ≤ a * b % 18446744073709551616 ∧ a * b % 18446744073709551616 ≤ 18446744073709551615) ∧ a * b / 18446744073709551616 * 18446744073709551616 + a * b % 18446744073709551616 = a * b ∧
      (0 ≤ a * b / c) ∧ (0 ≤ a * b % c ∧ a * b % c < c) := by
  have h0 : 0 ≤ a * b := Int.mul_nonneg ha.1 hb.1
  have h1 : 0 ≤ a * b / c := Int.ediv_nonneg h0 (by omega)
  have h2 : 0 ≤ a * b % c := Int.emod_nonneg _ (by omega)
  have h3 : a * b % c < c := Int.emod_lt_of_pos _ (by omega)
  have h4 : c * (a * b / c) + a * b % c = a * b := Int.mul_ediv_add_emod _ _
  have h5 : c * (a * b / c) ≤ c * 288230376151711744 := Int.mul_le_mul_of_nonneg_left hq (by omega)
  generalize a * b = N at *
  generalize c * (N / c) = X at *
  refine ⟨⟨by omega, ?_⟩, by omega, by omega, h1, h2, h3⟩
  omega
theorem rmul_loop {n : Nat} {hi lo c N : Int} (hN : N = hi * 18446744073709551616 + lo) (h0 : 0 ≤ hi) (hl : 0 ≤ lo ∧ lo ≤ 18446744073709551615) (hc : 1 ≤ c ∧ c ≤ 9223372036854775807) (hq : N / c ≤ 288230376151711744) :
    ∀ k : Nat, k ≤ 64 → d_ref01_MulDiv_L0 (hi, lo) c (n + k + 1) (N / 2 ^ k % c) (N / 2 ^ k / c) ((k : Int) - 1) = some (N % c, N / c)
  | 0, _ => by
    have e : N / 2 ^ 0 = N := by show N / 1 = N; omega
    rw [d_ref01_MulDiv_L0, e]
    exact v_F (by omega) (v_cF rfl)
  | k + 1, hk => by
    have N0 : 0 ≤ N := by omega
    have p : (0 : Int) < 2 ^ k := Int.pow_pos (by decide)
    have p2 : (2 : Int) ^ (k + 1) = 2 ^ k * 2 := Int.pow_succ _ _
    have e1 : N / 2 ^ (k + 1) = N / 2 ^ k / 2 := by rw [p2, Int.ediv_ediv_of_nonneg (by omega)]
    have M0 : 0 ≤ N / 2 ^ k := Int.ediv_nonneg N0 (by omega)
    have MN : N / 2 ^ k ≤ N := Int.ediv_le_self _ N0
    have hb : lo / 2 ^ k % 2 = N / 2 ^ k % 2 := by
      have e3 : (18446744073709551616 : Int) = 2 ^ (63 - k) * 2 * 2 ^ k := by
        have : (2 : Int) ^ (63 - k) * 2 * 2 ^ k = 2 ^ (63 - k + 1 + k) := by rw [Int.pow_add, Int.pow_succ]
        rw [this, show 63 - k + 1 + k = 64 from by omega]; decide
      have e4 : N = lo + (hi * 2 ^ (63 - k) * 2) * 2 ^ k := by
        rw [hN]
        have : hi * 18446744073709551616 = (hi * 2 ^ (63 - k) * 2) * 2 ^ k := by
          conv => lhs; rw [e3]
          grind
        omega
      rw [e4, Int.add_mul_ediv_right _ _ (by omega)]
      generalize hi * 2 ^ (63 - k) = z
      omega
    have L0 : 0 ≤ lo / 2 ^ k := Int.ediv_nonneg hl.1 (by omega)
    have L1 : lo / 2 ^ k ≤ lo := Int.ediv_le_self _ hl.1
    have hqk : N / 2 ^ k / c ≤ 288230376151711744 := Int.le_trans (Int.ediv_le_ediv (by omega) MN) hq
    have ih := rmul_loop (n := n) hN h0 hl hc hq k (by omega)
    rw [d_ref01_MulDiv_L0, e1]
    generalize N / 2 ^ k = M at *
    have q0 : 0 ≤ M / 2 / c := Int.ediv_nonneg (by omega) (by omega)
    have r0 : 0 ≤ M / 2 % c := Int.emod_nonneg _ (by omega)
    have r1 : M / 2 % c < c := Int.emod_lt_of_pos _ (by omega)
    have er : c * (M / 2 / c) + M / 2 % c = M / 2 := Int.mul_ediv_add_emod _ _
    have bit : M = 2 * (M / 2) + M % 2 := by omega
    have b01 : 0 ≤ M % 2 ∧ M % 2 ≤ 1 := by omega
    generalize hQ : M / 2 / c = Q at *
    generalize hR : M / 2 % c = R at *
    have qlt : Q ≤ 288230376151711744 := by
      rw [← hQ]
      exact Int.le_trans (Int.ediv_le_ediv (by omega) (by omega)) hqk
    have hor : ((BitVec.ofInt IntKind.u64.bits (R * 2) ||| BitVec.ofInt IntKind.u64.bits (M % 2)).toNat : Int) = R * 2 + M % 2 :=
      orK (k := 1) (t := R) (by show R * 2 = 2 * R; omega) r0 (by omega) (by show _ ∧ _ < (2 : Int); omega) (by omega)
    have hor2 : ((BitVec.ofInt IntKind.u64.bits (Q * 2) ||| BitVec.ofInt IntKind.u64.bits 1).toNat : Int) = Q * 2 + 1 :=
      orK (k := 1) (t := Q) (by show Q * 2 = 2 * Q; omega) q0 (by omega) (by decide) (by decide)
    have step : ∀ R' Q' : Int, M = Q' * c + R' → 0 ≤ R' → R' < c → M % c = R' ∧ M / c = Q' := by
      intro R' Q' h g1 g2
      constructor
      · rw [h, Int.add_comm, Int.add_mul_emod_self_right, Int.emod_eq_of_lt g1 g2]
      · rw [h, Int.add_comm, Int.add_mul_ediv_right _ _ (by omega), Int.ediv_eq_zero_of_lt g1 g2]; omega
    by_cases hge : R * 2 + M % 2 ≥ c
    · obtain ⟨s1, s2⟩ := step (R * 2 + M % 2 - c) (Q * 2 + 1) (by
        have : (Q * 2 + 1) * c = c * Q * 2 + c := by grind
        omega) (by omega) (by omega)
      refine v_T (by omega) (v_cT (v_bi (a := (R * 2 + M % 2 - c, Q * 2 + 1)) ?_ (v_p2 ?_)))
      · refine v_shl (t := 1) (y := R * 2) rfl (by decide) (P := 2) rfl (wrapu64 (by omega)) (v_eq (v := (k : Int)) (by rw [show ((k + 1 : Nat) : Int) - 1 = (k : Int) from by omega]; exact wrapu64 (by omega)) (v_as (by omega) (v_shr (t := k) (by omega) (by omega) rfl (by omega) ?_)))
        refine v_eq (v := M % 2) (by rw [and1 (x := lo / 2 ^ k) ⟨L0, by omega⟩, hb]; exact wrapu64 (by omega)) (v_orE hor (by omega) (v_shl (t := 1) (y := Q * 2) rfl (by decide) (P := 2) rfl (wrapu64 (by omega)) (v_T hge (v_cT (v_wu (by omega) (v_orE hor2 (by omega) rfl))))))
      · refine v_eq (v := (k : Int) - 1) (by rw [show ((k + 1 : Nat) : Int) - 1 - 1 = (k : Int) - 1 from by omega]; exact wrap64 (by omega)) ?_
        rw [s1, s2] at ih
        exact ih
    · obtain ⟨s1, s2⟩ := step (R * 2 + M % 2) (Q * 2) (by
        have : (Q * 2) * c = c * Q * 2 := by grind
        omega) (by omega) (by omega)
      refine v_T (by omega) (v_cT (v_bi (a := (R * 2 + M % 2, Q * 2)) ?_ (v_p2 ?_)))
      · refine v_shl (t := 1) (y := R * 2) rfl (by decide) (P := 2) rfl (wrapu64 (by omega)) (v_eq (v := (k : Int)) (by rw [show ((k + 1 : Nat) : Int) - 1 = (k : Int) from by omega]; exact wrapu64 (by omega)) (v_as (by omega) (v_shr (t := k) (by omega) (by omega) rfl (by omega) ?_)))
        exact v_eq (v := M % 2) (by rw [and1 (x := lo / 2 ^ k) ⟨L0, by omega⟩, hb]; exact wrapu64 (by omega)) (v_orE hor (by omega) (v_shl (t := 1) (y := Q * 2) rfl (by decide) (P := 2) rfl (wrapu64 (by omega)) (v_F hge (v_cF rfl))))
      · refine v_eq (v := (k : Int) - 1) (by rw [show ((k + 1 : Nat) : Int) - 1 - 1 = (k : Int) - 1 from by omega]; exact wrap64 (by omega)) ?_
        rw [s1, s2] at ih
        exact ih
theorem rmul_g {n : Nat} {a b c : Int} (ha : 0 ≤ a ∧ a ≤ 9223372036854775807) (hb : 0 ≤ b ∧ b ≤ 9223372036854775807) (hc : 1 ≤ c ∧ c ≤ 9223372036854775807) (hq : a * b / c ≤ 288230376151711744) : d_ref01_MulDiv (n + 65) a b c = some (a * b / c, a * b % c, 0) := by
  obtain ⟨h1, h2, h3, h4, h5⟩ := mul_facts ha hb hc hq
  have hl := rmul_loop (n := n) h3.symm h1.1 h2 hc hq 64 (by decide)
  have e : a * b / 2 ^ 64 = a * b / 18446744073709551616 := rfl
  have e1 : a * b / 18446744073709551616 % c = a * b / 18446744073709551616 := Int.emod_eq_of_lt h1.1 h1.2
  have e2 : a * b / 18446744073709551616 / c = 0 := Int.ediv_eq_zero_of_lt h1.1 h1.2
  rw [e, e1, e2] at hl
  unfold d_ref01_MulDiv
  refine v_bi (a := false) ?_ (v_as rfl (v_bi (rwide_g ha hb) ?_))
  · exact v_F (by omega) (v_cF (v_F (by omega) (v_cF (v_F (by omega) rfl))))
  refine v_wu (by omega) (v_F (by show ¬ _ ≥ _; omega) (v_as rfl (v_bi hl (v_p2 (v_F (by omega) (v_as rfl (v_w (by omega) (v_w (by omega) rfl))))))))
theorem rmd {n : Nat} {a b c q r : Int} (ha : 0 ≤ a ∧ a ≤ 9223372036854775807) (hb : 0 ≤ b ∧ b ≤ 9223372036854775807) (hc : 1 ≤ c ∧ c ≤ 9223372036854775807) (h : a * b = q * c + r) (hr : 0 ≤ r ∧ r < c) (hq : q ≤ 288230376151711744) : d_ref01_MulDiv (n + 65) a b c = some (q, r, 0) := by
  have h2 : (a * b) / c = q := by
    rw [h, Int.add_comm, Int.add_mul_ediv_right _ _ (by omega), Int.ediv_eq_zero_of_lt hr.1 hr.2]; omega
  have h3 : (a * b) % c = r := by
    rw [h, Int.add_comm, Int.add_mul_emod_self_right, Int.emod_eq_of_lt hr.1 hr.2]
  rw [rmul_g ha hb hc (by rw [h2]; exact hq), h2, h3]
end Go.Pv
