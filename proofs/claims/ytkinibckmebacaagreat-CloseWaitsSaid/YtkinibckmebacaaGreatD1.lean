/- Bits, as numbers. -/
import Derived.Test.YtkinibckmebacaaGreatPvAE
set_option linter.unusedSimpArgs false
set_option linter.unusedVariables false
namespace Go.Pv
theorem ofI {x : Int} (h : 0 ≤ x ∧ x ≤ 18446744073709551615) : (BitVec.ofInt IntKind.u64.bits x).toNat = x.toNat := by
  show (BitVec.ofInt 64 x).toNat = x.toNat
  rw [BitVec.toNat_ofInt]
  have : x % ((2 ^ 64 : Nat) : Int) = x := Int.emod_eq_of_lt h.1 (by show x < 18446744073709551616; omega)
  rw [this]
theorem and32 {x : Int} (h : 0 ≤ x ∧ x ≤ 18446744073709551615) : ((BitVec.ofInt IntKind.u64.bits x &&& BitVec.ofInt IntKind.u64.bits 4294967295).toNat : Int) = x % 4294967296 := by
  rw [BitVec.toNat_and, ofI h, ofI (by decide)]
  have : x.toNat &&& (4294967295 : Int).toNat = x.toNat % 4294967296 := Nat.and_two_pow_sub_one_eq_mod x.toNat 32
  rw [this]; omega
theorem and1 {x : Int} (h : 0 ≤ x ∧ x ≤ 18446744073709551615) : ((BitVec.ofInt IntKind.u64.bits x &&& BitVec.ofInt IntKind.u64.bits 1).toNat : Int) = x % 2 := by
  rw [BitVec.toNat_and, ofI h, ofI (by decide)]
  have : x.toNat &&& (1 : Int).toNat = x.toNat % 2 := Nat.and_two_pow_sub_one_eq_mod x.toNat 1
  rw [this]; omega
theorem orK {a b t : Int} {k : Nat} (ha : a = 2 ^ k * t) (ht : 0 ≤ t) (h : a ≤ 18446744073709551615) (hb : 0 ≤ b ∧ b < 2 ^ k) (hb2 : b ≤ 18446744073709551615) : ((BitVec.ofInt IntKind.u64.bits a ||| BitVec.ofInt IntKind.u64.bits b).toNat : Int) = a + b := by
  have p2 : (0 : Int) ≤ 2 ^ k := Int.pow_nonneg (by decide)
  have ha0 : 0 ≤ a := by rw [ha]; exact Int.mul_nonneg p2 ht
  rw [BitVec.toNat_or, ofI ⟨ha0, h⟩, ofI ⟨hb.1, hb2⟩]
  have e1 : a.toNat = 2 ^ k * t.toNat := by
    apply Int.ofNat.inj
    show ((a.toNat : Nat) : Int) = ((2 ^ k * t.toNat : Nat) : Int)
    rw [Int.toNat_of_nonneg ha0, ha, Int.natCast_mul, Int.toNat_of_nonneg ht]; simp
  have e2 : b.toNat < 2 ^ k := by
    have : ((b.toNat : Nat) : Int) < ((2 ^ k : Nat) : Int) := by rw [Int.toNat_of_nonneg hb.1]; simpa using hb.2
    omega
  rw [e1, ← Nat.two_pow_add_eq_or_of_lt e2, ← e1]
  omega
theorem mulB {x y X Y : Int} (hx : 0 ≤ x ∧ x ≤ X) (hy : 0 ≤ y ∧ y ≤ Y) : 0 ≤ x * y ∧ x * y ≤ X * Y :=
  ⟨Int.mul_nonneg hx.1 hy.1, Int.le_trans (Int.mul_le_mul_of_nonneg_left hy.2 hx.1) (Int.mul_le_mul_of_nonneg_right hx.2 (by omega))⟩
theorem wide4 {a b : Int} (ha : 0 ≤ a ∧ a ≤ 9223372036854775807) (hb : 0 ≤ b ∧ b ≤ 9223372036854775807) :
    ∃ p q r s : Int, p = (a % 4294967296) * (b % 4294967296) ∧ q = (a / 4294967296) * (b % 4294967296) ∧ r = (a % 4294967296) * (b / 4294967296) ∧ s = (a / 4294967296) * (b / 4294967296) ∧
      (0 ≤ p ∧ p ≤ 18446744065119617025) ∧ (0 ≤ q ∧ q ≤ 9223372030412324865) ∧ (0 ≤ r ∧ r ≤ 9223372030412324865) ∧ (0 ≤ s ∧ s ≤ 4611686014132420609) ∧ a * b = s * 18446744073709551616 + (q + r) * 4294967296 + p := by
  refine ⟨_, _, _, _, rfl, rfl, rfl, rfl, ?_, ?_, ?_, ?_, ?_⟩
  · exact mulB (X := 4294967295) (Y := 4294967295) (by omega) (by omega)
  · exact mulB (X := 2147483647) (Y := 4294967295) (by omega) (by omega)
  · exact mulB (X := 4294967295) (Y := 2147483647) (by omega) (by omega)
  · exact mulB (X := 2147483647) (Y := 2147483647) (by omega) (by omega)
  · generalize e1 : a / 4294967296 = a1
    generalize e0 : a % 4294967296 = a0
    generalize f1 : b / 4294967296 = b1
    generalize f0 : b % 4294967296 = b0
    have ea : a = a1 * 4294967296 + a0 := by omega
    have eb : b = b1 * 4294967296 + b0 := by omega
    rw [ea, eb]; grind
end Go.Pv
