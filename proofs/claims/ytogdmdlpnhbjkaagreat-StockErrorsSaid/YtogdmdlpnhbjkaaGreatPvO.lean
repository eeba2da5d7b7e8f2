/- The builder: what it holds. -/
import Derived.Test.YtogdmdlpnhbjkaaGreatPvN
set_option linter.unusedSimpArgs false
set_option linter.unusedVariables false
namespace Go.Pv
theorem info_of {P : Program} {t : TypeId} {k : Nat} (h : ((P.info? t).map (·.size)) = some k) : ∃ j, P.info? t = some j ∧ j.size = k := by
  cases hj : P.info? t with
  | none => rw [hj] at h; cases h
  | some j => rw [hj] at h; exact ⟨j, rfl, by simpa using h⟩
section
variable {P : Program} {n : NT} {S : AS} {o : Oper} {T : TypeId} {x y : Operand}
end
def encF : Nat → Nat → List UInt8
  | 0, u => [UInt8.ofNat u]
  | f + 1, u => if u < 128 then [UInt8.ofNat u] else UInt8.ofNat (u % 128 + 128) :: encF f (u / 128)
def enc (v : Int) : List UInt8 := encF 10 (zz v)
def isI (v : Int) : Prop := -9223372036854775808 ≤ v ∧ v ≤ 9223372036854775807
instance (v : Int) : Decidable (isI v) := inferInstanceAs (Decidable (_ ∧ _))
end Go.Pv
