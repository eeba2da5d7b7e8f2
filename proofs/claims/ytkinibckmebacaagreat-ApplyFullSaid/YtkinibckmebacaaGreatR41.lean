/- ApplyFull: plain law. -/
import Derived.Test.YtkinibckmebacaaGreatP41
set_option linter.unusedSimpArgs false
set_option linter.unusedVariables false
namespace Go.Pv
set_option maxRecDepth 1000000
theorem full_0 {a : Int} (h : d_law00_Place a 3 = some 0) : d_law22_ApplyFull 100 a = some true := by
  unfold d_law22_ApplyFull
  rw [h]
  clear h
  decide +kernel
theorem full_1 {a : Int} (h : d_law00_Place a 3 = some 1) : d_law22_ApplyFull 100 a = some true := by
  unfold d_law22_ApplyFull
  rw [h]
  clear h
  decide +kernel
theorem full_2 {a : Int} (h : d_law00_Place a 3 = some 2) : d_law22_ApplyFull 100 a = some true := by
  unfold d_law22_ApplyFull
  rw [h]
  clear h
  decide +kernel
theorem applyFull_plain {a : Int} (ha : -9223372036854775808 ≤ a ∧ a ≤ 9223372036854775807) : d_law22_ApplyFull 100 a = some true := by
  obtain ⟨p, e, h1, h2⟩ := place_e (n := 3) (by decide) ha
  have hp : p = 0 ∨ p = 1 ∨ p = 2 := by omega
  rcases hp with rfl | rfl | rfl
  · exact full_0 e
  · exact full_1 e
  · exact full_2 e
end Go.Pv
