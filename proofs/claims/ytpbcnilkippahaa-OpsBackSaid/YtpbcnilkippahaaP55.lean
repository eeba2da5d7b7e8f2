import Derived.Test.YtpbcnilkippahaaP54
set_option linter.unusedSimpArgs false
set_option linter.unusedVariables false
namespace Go.Pv
set_option maxRecDepth 100000
theorem bl2 {α : Type} (a b : Bool) (f : Bool → Option α) : ((bnd a fun x => cond x (bnd b fun y => some y) (some false)).bind f) = f (a && b) := by cases a <;> cases b <;> rfl
theorem same_e {n : Nat} (x y : GOp) : d_ref05_same n x y = cond (decide (x.Kind = y.Kind) && (decide (x.E = y.E) && (decide (x.Item = y.Item) && (decide (x.Loc = y.Loc) && (decide (x.To = y.To) && (decide (x.Qty = y.Qty) && (decide (x.Amount = y.Amount) && decide (x.Ref = y.Ref)))))))) (d_ref04_SameInts n x.Refs y.Refs) (some false) := by
  unfold d_ref05_same
  cases decide (x.Kind = y.Kind)
  · rfl
  cases decide (x.E = y.E)
  · rfl
  cases decide (x.Item = y.Item)
  · rfl
  cases decide (x.Loc = y.Loc)
  · rfl
  cases decide (x.To = y.To)
  · rfl
  cases decide (x.Qty = y.Qty)
  · rfl
  cases decide (x.Amount = y.Amount)
  · rfl
  cases decide (x.Ref = y.Ref)
  · rfl
  show ((d_ref04_SameInts n x.Refs y.Refs).bind fun x => some x).bind (fun x => some x) = d_ref04_SameInts n x.Refs y.Refs
  cases d_ref04_SameInts n x.Refs y.Refs <;> rfl
theorem part_e {n : Nat} (o x : GOp) : d_ref05_part n o x 101 = some ({ x with E := o.E }, decide (o.E ≥ 0) && decide (o.E < 4)) := by
  unfold d_ref05_part
  simp only [bl2]
  kernel_rfl
theorem part_i {n : Nat} (o x : GOp) : d_ref05_part n o x 105 = some ({ x with Item := o.Item }, decide (o.Item ≥ 0) && decide (o.Item < 5)) := by
  unfold d_ref05_part
  simp only [bl2]
  kernel_rfl
theorem part_l {n : Nat} (o x : GOp) : d_ref05_part n o x 108 = some ({ x with Loc := o.Loc }, decide (o.Loc ≥ 0) && decide (o.Loc < 2)) := by
  unfold d_ref05_part
  simp only [bl2]
  kernel_rfl
theorem part_t {n : Nat} (o x : GOp) {t : Bool} (h : d_ref05_to o = some t) : d_ref05_part n o x 116 = some ({ x with To := o.To }, t) := by
  unfold d_ref05_part
  simp only [h]
  kernel_rfl
theorem part_q {n : Nat} (o x : GOp) : d_ref05_part n o x 113 = some ({ x with Qty := o.Qty }, decide (o.Qty ≤ 1073741824) && (decide (o.Qty ≥ 1) || (decide (o.Qty = 0) && decide (o.Kind = 7)))) := by
  unfold d_ref05_part
  generalize decide (o.Qty ≤ 1073741824) = q1
  generalize decide (o.Qty ≥ 1) = q2
  generalize decide (o.Qty = 0) = q3
  generalize decide (o.Kind = 7) = q4
  cases q1 <;> cases q2 <;> cases q3 <;> cases q4 <;> kernel_rfl
theorem part_a {n : Nat} (o x : GOp) : d_ref05_part n o x 97 = some ({ x with Amount := o.Amount }, decide (o.Amount ≥ 0) && (decide (o.Amount ≤ 1125899906842624) && (decide (o.Amount ≤ 1073741824) || (decide (o.Kind ≠ 9) && decide (o.Kind ≠ 10))))) := by
  unfold d_ref05_part
  generalize decide (o.Amount ≥ 0) = q1
  generalize decide (o.Amount ≤ 1125899906842624) = q2
  generalize decide (o.Amount ≤ 1073741824) = q3
  generalize decide (o.Kind ≠ 9) = q4
  generalize decide (o.Kind ≠ 10) = q5
  cases q1 <;> cases q2 <;> cases q3 <;> cases q4 <;> cases q5 <;> kernel_rfl
theorem part_r {n : Nat} (o x : GOp) : d_ref05_part n o x 114 = some ({ x with Ref := o.Ref }, decide (o.Ref ≥ 0) && decide (o.Ref < 40)) := by
  unfold d_ref05_part
  simp only [bl2]
  kernel_rfl
end Go.Pv
