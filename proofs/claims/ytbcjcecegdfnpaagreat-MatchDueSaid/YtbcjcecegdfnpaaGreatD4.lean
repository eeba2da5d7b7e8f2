/- MatchDue: products cut, of the program and of the document. -/
import Derived.Test.YtbcjcecegdfnpaaGreatK4d
import Derived.Test.YtbcjcecegdfnpaaGreatD1
import Derived.Test.YtbcjcecegdfnpaaGreatPlV
set_option linter.unusedSimpArgs false
set_option linter.unusedVariables false
namespace Go.Pv
open Go.Proofs
set_option maxRecDepth 100000
set_option maxHeartbeats 1000000
theorem wmod (x : Int) : wu64 x = x % 18446744073709551616 := wrapu64_mod x
theorem wide_fin {p q r s ab : Int} (bp : 0 ≤ p ∧ p ≤ 18446744065119617025) (bq : 0 ≤ q ∧ q ≤ 9223372030412324865) (br : 0 ≤ r ∧ r ≤ 9223372030412324865) (bs : 0 ≤ s ∧ s ≤ 4611686014132420609) (e : ab = s * 18446744073709551616 + (q + r) * 4294967296 + p) :
    ((s + q / 4294967296) % 18446744073709551616 + r / 4294967296) % 18446744073709551616 = s + q / 4294967296 + r / 4294967296 ∧ s + q / 4294967296 + r / 4294967296 + (p / 4294967296 + q % 4294967296 + r % 4294967296) / 4294967296 = ab / 18446744073709551616 ∧
      0 ≤ ab / 18446744073709551616 ∧ ab / 18446744073709551616 < 18446744073709551616 ∧ (p / 4294967296 + q % 4294967296 + r % 4294967296) % 4294967296 * 4294967296 + p % 4294967296 = ab % 18446744073709551616 := by
  have hp : p = p / 4294967296 * 4294967296 + p % 4294967296 := by omega
  have hq : q = q / 4294967296 * 4294967296 + q % 4294967296 := by omega
  have hr : r = r / 4294967296 * 4294967296 + r % 4294967296 := by omega
  have hp0 : 0 ≤ p % 4294967296 ∧ p % 4294967296 < 4294967296 := by omega
  have hp1 : 0 ≤ p / 4294967296 ∧ p / 4294967296 < 4294967296 := by omega
  have hq0 : 0 ≤ q % 4294967296 ∧ q % 4294967296 < 4294967296 := by omega
  have hq1 : 0 ≤ q / 4294967296 ∧ q / 4294967296 < 4294967296 := by omega
  have hr0 : 0 ≤ r % 4294967296 ∧ r % 4294967296 < 4294967296 := by omega
  have hr1 : 0 ≤ r / 4294967296 ∧ r / 4294967296 < 4294967296 := by omega
  generalize p / 4294967296 = p1 at *
  generalize p % 4294967296 = p0 at *
  generalize q / 4294967296 = q1 at *
  generalize q % 4294967296 = q0 at *
  generalize r / 4294967296 = r1 at *
  generalize r % 4294967296 = r0 at *
  have hm : p1 + q0 + r0 = (p1 + q0 + r0) / 4294967296 * 4294967296 + (p1 + q0 + r0) % 4294967296 := by omega
  have hm0 : 0 ≤ (p1 + q0 + r0) % 4294967296 ∧ (p1 + q0 + r0) % 4294967296 < 4294967296 := by omega
  have hm1 : 0 ≤ (p1 + q0 + r0) / 4294967296 ∧ (p1 + q0 + r0) / 4294967296 ≤ 2 := by omega
  generalize (p1 + q0 + r0) / 4294967296 = m1 at *
  generalize (p1 + q0 + r0) % 4294967296 = m0 at *
  have hab : ab = (s + q1 + r1 + m1) * 18446744073709551616 + (m0 * 4294967296 + p0) := by omega
  have h1 : ab / 18446744073709551616 = s + q1 + r1 + m1 := by omega
  have h2 : ab % 18446744073709551616 = m0 * 4294967296 + p0 := by omega
  rw [h1, h2]
  refine ⟨?_, rfl, ?_, ?_, rfl⟩ <;> omega
theorem wide_g {a b : Int} (ha : 0 ≤ a ∧ a ≤ 9223372036854775807) (hb : 0 ≤ b ∧ b ≤ 9223372036854775807) : d_money_Wide a b = some (a * b / 18446744073709551616, a * b % 18446744073709551616) := by
  obtain ⟨p, q, r, s, hp, hq, hr, hs, bp, bq, br, bs, e⟩ := wide4 ha hb
  have wa : wu64 a = a := wrapu64 (by omega)
  have wb : wu64 b = b := wrapu64 (by omega)
  have t1 : a.tmod 4294967296 = a % 4294967296 := Int.tmod_eq_emod_of_nonneg ha.1
  have t2 : b.tmod 4294967296 = b % 4294967296 := Int.tmod_eq_emod_of_nonneg hb.1
  have t3 : a.tdiv 4294967296 = a / 4294967296 := Int.tdiv_eq_ediv_of_nonneg ha.1
  have t4 : b.tdiv 4294967296 = b / 4294967296 := Int.tdiv_eq_ediv_of_nonneg hb.1
  have w3 : wu64 (a / 4294967296) = a / 4294967296 := wrapu64 (by omega)
  have w4 : wu64 (b / 4294967296) = b / 4294967296 := wrapu64 (by omega)
  have wp : wu64 (a % 4294967296 * (b % 4294967296)) = p := by rw [← hp]; exact wrapu64 (by omega)
  have wq : wu64 (a / 4294967296 * (b % 4294967296)) = q := by rw [← hq]; exact wrapu64 (by omega)
  have wr : wu64 (a % 4294967296 * (b / 4294967296)) = r := by rw [← hr]; exact wrapu64 (by omega)
  have ws : wu64 (a / 4294967296 * (b / 4294967296)) = s := by rw [← hs]; exact wrapu64 (by omega)
  have d1 : p.tdiv 4294967296 = p / 4294967296 := Int.tdiv_eq_ediv_of_nonneg bp.1
  have d2 : q.tdiv 4294967296 = q / 4294967296 := Int.tdiv_eq_ediv_of_nonneg bq.1
  have d3 : r.tdiv 4294967296 = r / 4294967296 := Int.tdiv_eq_ediv_of_nonneg br.1
  have m2 : q.tmod 4294967296 = q % 4294967296 := Int.tmod_eq_emod_of_nonneg bq.1
  have m3 : r.tmod 4294967296 = r % 4294967296 := Int.tmod_eq_emod_of_nonneg br.1
  have wd : wu64 (p / 4294967296) = p / 4294967296 := wrapu64 (by omega)
  have we : wu64 (p / 4294967296 + q % 4294967296) = p / 4294967296 + q % 4294967296 := wrapu64 (by omega)
  have wf : wu64 (p / 4294967296 + q % 4294967296 + r % 4294967296) = p / 4294967296 + q % 4294967296 + r % 4294967296 := wrapu64 (by omega)
  have dm : (p / 4294967296 + q % 4294967296 + r % 4294967296).tdiv 4294967296 = (p / 4294967296 + q % 4294967296 + r % 4294967296) / 4294967296 := Int.tdiv_eq_ediv_of_nonneg (by omega)
  simp only [d_money_Wide, bnd, wa, wb, t1, t2, t3, t4, w3, w4, wp, wq, wr, ws, d1, d2, d3, m2, m3, wd, we, wf, dm]
  obtain ⟨k1, k2, k3, k4, k5⟩ := wide_fin bp bq br bs e
  rw [wmod (a * b), wmod, wmod, wmod]
  have z1 : wu64 (q / 4294967296) = q / 4294967296 := wrapu64 (by omega)
  have z2 : wu64 (r / 4294967296) = r / 4294967296 := wrapu64 (by omega)
  have z3 : wu64 ((p / 4294967296 + q % 4294967296 + r % 4294967296) / 4294967296) = (p / 4294967296 + q % 4294967296 + r % 4294967296) / 4294967296 := wrapu64 (by omega)
  rw [z1, z2, z3, k1, k2, Int.emod_eq_of_lt k3 k4]
theorem f32 (x : Int) : x.fdiv (2 ^ (min (32 : Int).toNat IntKind.u64.bits)) = x / 4294967296 := by
  show x.fdiv 4294967296 = _
  exact Int.fdiv_eq_ediv_of_nonneg x (by decide)
theorem s32 (x : Int) : x * (2 ^ (min (32 : Int).toNat IntKind.u64.bits)) = x * 4294967296 := rfl
theorem rwide_g {a b : Int} (ha : 0 ≤ a ∧ a ≤ 9223372036854775807) (hb : 0 ≤ b ∧ b ≤ 9223372036854775807) : d_ref01_Wide a b = some (a * b / 18446744073709551616, a * b % 18446744073709551616) := by
  obtain ⟨p, q, r, s, hp, hq, hr, hs, bp, bq, br, bs, e⟩ := wide4 ha hb
  have wa : wu64 a = a := wrapu64 (by omega)
  have wb : wu64 b = b := wrapu64 (by omega)
  have t1 : wu64 (a % 4294967296) = a % 4294967296 := wrapu64 (by omega)
  have t2 : wu64 (b % 4294967296) = b % 4294967296 := wrapu64 (by omega)
  have wp : wu64 (a % 4294967296 * (b % 4294967296)) = p := by rw [← hp]; exact wrapu64 (by omega)
  have wq : wu64 (a / 4294967296 * (b % 4294967296)) = q := by rw [← hq]; exact wrapu64 (by omega)
  have wr : wu64 (a % 4294967296 * (b / 4294967296)) = r := by rw [← hr]; exact wrapu64 (by omega)
  have ws : wu64 (a / 4294967296 * (b / 4294967296)) = s := by rw [← hs]; exact wrapu64 (by omega)
  have wd : wu64 (r % 4294967296) = r % 4294967296 := wrapu64 (by omega)
  have wd2 : wu64 (q % 4294967296) = q % 4294967296 := wrapu64 (by omega)
  have wd3 : wu64 (p % 4294967296) = p % 4294967296 := wrapu64 (by omega)
  have we : wu64 (p / 4294967296 + r % 4294967296) = p / 4294967296 + r % 4294967296 := wrapu64 (by omega)
  have wf : wu64 (p / 4294967296 + r % 4294967296 + q % 4294967296) = p / 4294967296 + r % 4294967296 + q % 4294967296 := wrapu64 (by omega)
  have hor : ((BitVec.ofInt IntKind.u64.bits (wu64 ((p / 4294967296 + r % 4294967296 + q % 4294967296) * 4294967296)) ||| BitVec.ofInt IntKind.u64.bits (p % 4294967296)).toNat : Int) = wu64 ((p / 4294967296 + r % 4294967296 + q % 4294967296) * 4294967296) + p % 4294967296 :=
    orK (k := 32) (t := wu64 ((p / 4294967296 + r % 4294967296 + q % 4294967296) * 4294967296) / 4294967296) (by rw [wmod]; show _ = 4294967296 * _; omega) (by rw [wmod]; omega) (by rw [wmod]; omega) (by show _ ∧ _ < (4294967296 : Int); omega) (by omega)
  simp only [d_ref01_Wide, bnd, wa, wb, f32, s32, and32 (x := a) (by omega), and32 (x := b) (by omega), t1, t2, wp, wq, wr, ws, and32 (x := p) (by omega), and32 (x := q) (by omega), and32 (x := r) (by omega), wd, wd2, wd3, we, wf, hor]
  obtain ⟨k1, k2, k3, k4, k5⟩ := wide_fin (ab := a * b) bp br bq bs (by rw [e, Int.add_comm q r])
  simp only [wmod]
  rw [k1, k2, Int.emod_eq_of_lt k3 k4, ← k5]
  have k6 : ((p / 4294967296 + r % 4294967296 + q % 4294967296) * 4294967296 % 18446744073709551616 + p % 4294967296) % 18446744073709551616 = (p / 4294967296 + r % 4294967296 + q % 4294967296) % 4294967296 * 4294967296 + p % 4294967296 := by omega
  rw [k6]
end Go.Pv
