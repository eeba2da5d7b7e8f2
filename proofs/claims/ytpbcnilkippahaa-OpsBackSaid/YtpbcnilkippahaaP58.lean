import Derived.Test.YtpbcnilkippahaaP56
set_option linter.unusedSimpArgs false
set_option linter.unusedVariables false
namespace Go.Pv
set_option maxRecDepth 100000
set_option maxHeartbeats 4000000
theorem eq1 {n m : Nat} {a b c d e f g : Int} {l : List Int} : d_ref05_Check (m + 12) ⟨1, a, b, c, d, e, f, g, l⟩ = d_ops_Check n ⟨1, a, b, c, d, e, f, g, l⟩ := by
  rw [chk1, rck1 rfl, same_e, sameI_nil (n := m + 11)]
  simp only [cond_eq_ite, Bool.and_eq_true, Bool.or_eq_true, decide_eq_true_eq, true_and, and_true]
  repeat' split
  all_goals first | rfl | (exfalso; omega) | (simp only [*, decide_true, decide_false]; done) | (simp [*]; done)
theorem eq2 {n m : Nat} {a b c d e f g : Int} {l : List Int} : d_ref05_Check (m + 12) ⟨2, a, b, c, d, e, f, g, l⟩ = d_ops_Check n ⟨2, a, b, c, d, e, f, g, l⟩ := by
  rw [chk2, rck2 rfl, same_e, sameI_nil (n := m + 11)]
  simp only [cond_eq_ite, Bool.and_eq_true, Bool.or_eq_true, decide_eq_true_eq, true_and, and_true]
  repeat' split
  all_goals first | rfl | (exfalso; omega) | (simp only [*, decide_true, decide_false]; done) | (simp [*]; done)
theorem eq3 {n m : Nat} {a b c d e f g : Int} {l : List Int} : d_ref05_Check (m + 12) ⟨3, a, b, c, d, e, f, g, l⟩ = d_ops_Check n ⟨3, a, b, c, d, e, f, g, l⟩ := by
  rw [chk3, rck3 rfl, same_e, sameI_nil (n := m + 11)]
  simp only [cond_eq_ite, Bool.and_eq_true, Bool.or_eq_true, decide_eq_true_eq, true_and, and_true]
  repeat' split
  all_goals first | rfl | (exfalso; omega) | (simp only [*, decide_true, decide_false]; done) | (simp [*]; done)
theorem eq4 {n m : Nat} {a b c d e f g : Int} {l : List Int} : d_ref05_Check (m + 12) ⟨4, a, b, c, d, e, f, g, l⟩ = d_ops_Check n ⟨4, a, b, c, d, e, f, g, l⟩ := by
  rw [chk4, rck4 rfl, same_e, sameI_nil (n := m + 11)]
  simp only [cond_eq_ite, Bool.and_eq_true, Bool.or_eq_true, decide_eq_true_eq, true_and, and_true]
  repeat' split
  all_goals first | rfl | (exfalso; omega) | (simp only [*, decide_true, decide_false]; done) | (simp [*]; done)
theorem eq5 {n m : Nat} {a b c d e f g : Int} {l : List Int} : d_ref05_Check (m + 12) ⟨5, a, b, c, d, e, f, g, l⟩ = d_ops_Check n ⟨5, a, b, c, d, e, f, g, l⟩ := by
  rw [chk5, rck5 rfl, same_e, sameI_nil (n := m + 11)]
  simp only [cond_eq_ite, Bool.and_eq_true, Bool.or_eq_true, decide_eq_true_eq, true_and, and_true]
  repeat' split
  all_goals first | rfl | (exfalso; omega) | (simp only [*, decide_true, decide_false]; done) | (simp [*]; done)
theorem eq6 {n m : Nat} {a b c d e f g : Int} {l : List Int} : d_ref05_Check (m + 12) ⟨6, a, b, c, d, e, f, g, l⟩ = d_ops_Check n ⟨6, a, b, c, d, e, f, g, l⟩ := by
  rw [chk6, rck6 rfl, same_e, sameI_nil (n := m + 11)]
  simp only [cond_eq_ite, Bool.and_eq_true, Bool.or_eq_true, decide_eq_true_eq, true_and, and_true]
  repeat' split
  all_goals first | rfl | (exfalso; omega) | (simp only [*, decide_true, decide_false]; done) | (simp [*]; done)
theorem eq7 {n m : Nat} {a b c d e f g : Int} {l : List Int} : d_ref05_Check (m + 12) ⟨7, a, b, c, d, e, f, g, l⟩ = d_ops_Check n ⟨7, a, b, c, d, e, f, g, l⟩ := by
  rw [chk7, rck7 rfl, same_e, sameI_nil (n := m + 11)]
  simp only [cond_eq_ite, Bool.and_eq_true, Bool.or_eq_true, decide_eq_true_eq, true_and, and_true]
  repeat' split
  all_goals first | rfl | (exfalso; omega) | (simp only [*, decide_true, decide_false]; done) | (simp [*]; done)
theorem eq9 {n m : Nat} {a b c d e f g : Int} {l : List Int} : d_ref05_Check (m + 12) ⟨9, a, b, c, d, e, f, g, l⟩ = d_ops_Check n ⟨9, a, b, c, d, e, f, g, l⟩ := by
  rw [chk9, rck9 rfl, same_e, sameI_nil (n := m + 11)]
  simp only [cond_eq_ite, Bool.and_eq_true, Bool.or_eq_true, decide_eq_true_eq, true_and, and_true]
  repeat' split
  all_goals first | rfl | (exfalso; omega) | (simp only [*, decide_true, decide_false]; done) | (simp [*]; done)
theorem eq10 {n m : Nat} {a b c d e f g : Int} {l : List Int} : d_ref05_Check (m + 12) ⟨10, a, b, c, d, e, f, g, l⟩ = d_ops_Check n ⟨10, a, b, c, d, e, f, g, l⟩ := by
  rw [chk10, rck10 rfl, same_e, sameI_nil (n := m + 11)]
  simp only [cond_eq_ite, Bool.and_eq_true, Bool.or_eq_true, decide_eq_true_eq, true_and, and_true]
  repeat' split
  all_goals first | rfl | (exfalso; omega) | (simp only [*, decide_true, decide_false]; done) | (simp [*]; done)
theorem eq13 {n m : Nat} {a b c d e f g : Int} {l : List Int} : d_ref05_Check (m + 12) ⟨13, a, b, c, d, e, f, g, l⟩ = d_ops_Check n ⟨13, a, b, c, d, e, f, g, l⟩ := by
  rw [chk13, rck13 rfl, same_e, sameI_nil (n := m + 11)]
  simp only [cond_eq_ite, Bool.and_eq_true, Bool.or_eq_true, decide_eq_true_eq, true_and, and_true]
  repeat' split
  all_goals first | rfl | (exfalso; omega) | (simp only [*, decide_true, decide_false]; done) | (simp [*]; done)
theorem eq14 {n m : Nat} {a b c d e f g : Int} {l : List Int} : d_ref05_Check (m + 12) ⟨14, a, b, c, d, e, f, g, l⟩ = d_ops_Check n ⟨14, a, b, c, d, e, f, g, l⟩ := by
  rw [chk14, rck14 rfl, same_e, sameI_nil (n := m + 11)]
  simp only [cond_eq_ite, Bool.and_eq_true, Bool.or_eq_true, decide_eq_true_eq, true_and, and_true]
  repeat' split
  all_goals first | rfl | (exfalso; omega) | (simp only [*, decide_true, decide_false]; done) | (simp [*]; done)
theorem eq15 {n m : Nat} {a b c d e f g : Int} {l : List Int} : d_ref05_Check (m + 12) ⟨15, a, b, c, d, e, f, g, l⟩ = d_ops_Check n ⟨15, a, b, c, d, e, f, g, l⟩ := by
  rw [chk15, rck15 rfl, same_e, sameI_nil (n := m + 11)]
  simp only [cond_eq_ite, Bool.and_eq_true, Bool.or_eq_true, decide_eq_true_eq, true_and, and_true]
  repeat' split
  all_goals first | rfl | (exfalso; omega) | (simp only [*, decide_true, decide_false]; done) | (simp [*]; done)
theorem eq16 {n m : Nat} {a b c d e f g : Int} {l : List Int} : d_ref05_Check (m + 12) ⟨16, a, b, c, d, e, f, g, l⟩ = d_ops_Check n ⟨16, a, b, c, d, e, f, g, l⟩ := by
  rw [chk16, rck16 rfl, same_e, sameI_nil (n := m + 11)]
  simp only [cond_eq_ite, Bool.and_eq_true, Bool.or_eq_true, decide_eq_true_eq, true_and, and_true]
  repeat' split
  all_goals first | rfl | (exfalso; omega) | (simp only [*, decide_true, decide_false]; done) | (simp [*]; done)
end Go.Pv
set_option linter.unusedSimpArgs false
set_option linter.unusedVariables false
namespace Go.Pv
set_option maxRecDepth 100000
set_option maxHeartbeats 4000000
theorem bl3 {α : Type} (a b c : Bool) (f : Bool → Option α) : ((bnd a fun x => cond x (bnd b fun y => cond y (bnd c fun z => some z) (some false)) (some false)).bind f) = f (a && (b && c)) := by cases a <;> cases b <;> cases c <;> rfl
theorem to8 {a b c d e f g : Int} {l : List Int} : d_ref05_to ⟨8, a, b, c, d, e, f, g, l⟩ = some (decide (d ≥ 0) && (decide (d < 2) && decide (d ≠ c))) := by
  unfold d_ref05_to
  simp only [bl3, bl2]
  kernel_rfl
theorem eq8 {n m : Nat} {a b c d e f g : Int} {l : List Int} : d_ref05_Check (m + 12) ⟨8, a, b, c, d, e, f, g, l⟩ = d_ops_Check n ⟨8, a, b, c, d, e, f, g, l⟩ := by
  rw [chk8, rck8 rfl to8, same_e, sameI_nil (n := m + 11)]
  simp only [cond_eq_ite, Bool.and_eq_true, Bool.or_eq_true, decide_eq_true_eq, true_and, and_true]
  repeat' split
  all_goals first | rfl | (exfalso; omega) | (simp only [*, decide_true, decide_false]; done) | (simp [*]; done) | (simp [*]; omega)
theorem to12 {a b c d e f g : Int} {l : List Int} : d_ref05_to ⟨12, a, b, c, d, e, f, g, l⟩ = some (decide (d ≥ 0) && (decide (d < 4) && decide (d ≠ a))) := by
  unfold d_ref05_to
  simp only [bl3, bl2]
  kernel_rfl
theorem eq12 {n m : Nat} {a b c d e f g : Int} {l : List Int} : d_ref05_Check (m + 12) ⟨12, a, b, c, d, e, f, g, l⟩ = d_ops_Check n ⟨12, a, b, c, d, e, f, g, l⟩ := by
  rw [chk12, rck12 rfl to12, same_e, sameI_nil (n := m + 11)]
  simp only [cond_eq_ite, Bool.and_eq_true, Bool.or_eq_true, decide_eq_true_eq, true_and, and_true]
  repeat' split
  all_goals first | rfl | (exfalso; omega) | (simp only [*, decide_true, decide_false]; done) | (simp [*]; done) | (simp [*]; omega)
theorem eqO {n m : Nat} {k a b c d e f g : Int} {l : List Int} (h : k < 1 ∨ k > 16) : d_ops_Check n ⟨k, a, b, c, d, e, f, g, l⟩ = some false := by
  unfold d_ops_Check
  simp only [blk]
  rw [show (decide (k < 1) || decide (k > 16)) = true by rcases h with h | h <;> simp [h]]
  rfl
end Go.Pv
