import Derived.Test.YtpbcnilkippahaaPvAF
import Derived.Test.YtpbcnilkippahaaK55c
set_option linter.unusedSimpArgs false
set_option linter.unusedVariables false
namespace Go.Pv
section
variable {α β γ δ R : Type}
theorem v_bnd {x : α} {f : α → Option β} {r : Option β} (h : f x = r) : bnd x f = r := h
theorem v_w {x : Int} {f : Int → Option β} {r : Option β} (hx : -9223372036854775808 ≤ x ∧ x ≤ 9223372036854775807) (h : f x = r) : bnd (w64 x) f = r := by
  show f (w64 x) = r
  rw [show w64 x = x from wrap64 hx]; exact h
theorem v_T {p : Prop} [Decidable p] {f : Bool → Option β} {r : Option β} (hp : p) (h : f true = r) : bnd (decide p) f = r := by
  show f (decide p) = r
  rw [decide_eq_true hp]; exact h
theorem v_F {p : Prop} [Decidable p] {f : Bool → Option β} {r : Option β} (hp : ¬ p) (h : f false = r) : bnd (decide p) f = r := by
  show f (decide p) = r
  rw [decide_eq_false hp]; exact h
theorem v_nT {f : Bool → Option β} {r : Option β} (h : f false = r) : bnd (!true) f = r := h
theorem v_nF {f : Bool → Option β} {r : Option β} (h : f true = r) : bnd (!false) f = r := h
theorem v_cT {a b : Option β} {r : Option β} (h : a = r) : cond true a b = r := h
theorem v_cF {a b : Option β} {r : Option β} (h : b = r) : cond false a b = r := h
theorem v_as {p : Prop} [Decidable p] {k r : Option β} (hp : p) (h : k = r) : asrt p k = r := by unfold asrt; rw [if_pos hp]; exact h
theorem v_bi {x : Option α} {f : α → Option β} {a : α} {r : Option β} (hx : x = some a) (h : f a = r) : x.bind f = r := by rw [hx]; exact h
theorem v_ix {l : List α} {i : Int} {v : α} {f : α → Option β} {r : Option β} (h0 : 0 ≤ i) (hl : l[i.toNat]? = some v) (h : f v = r) : (ix l i).bind f = r := by
  unfold ix; rw [if_neg (by omega), hl]; exact h
theorem v_p2 {f : α → β → Option γ} {a : α} {b : β} {r : Option γ} (h : f a b = r) : p2 f (a, b) = r := h
theorem v_selb {f : α → Option β} {a : α} {r : Option β} (h : f a = r) : sel f (.inl a) = r := h
theorem v_brk {a : α} {r : Option (α ⊕ β)} (h : some (.inl a) = r) : (brk a : Option (α ⊕ β)) = r := h
end
end Go.Pv
set_option linter.unusedSimpArgs false
set_option linter.unusedVariables false
namespace Go.Pv
set_option maxRecDepth 100000
theorem blk {α : Type} (a b : Bool) (f : Bool → Option α) : ((bnd a fun x => cond x (some true) (bnd b fun y => some y)).bind f) = f (a || b) := by cases a <;> cases b <;> rfl
theorem chk1 {n : Nat} {a b c d e f g : Int} {l : List Int} : d_ops_Check n ⟨1, a, b, c, d, e, f, g, l⟩ = cond (decide (a < 0) || decide (a > 3)) (some false) (cond (decide (b < 0) || decide (b > 4)) (some false) (cond (decide (c < 0) || decide (c > 1)) (some false) (cond (decide (d < 0) || decide (d > 0)) (some false) (cond (decide (e < 1) || decide (e > 1073741824)) (some false) (cond (decide (f < 0) || decide (f > 1125899906842624)) (some false) (cond (decide (g < 0) || decide (g > 0)) (some false) (cond (decide ((l.length : Int) = 0)) (some true) (some false)))))))) := by
  unfold d_ops_Check
  simp only [blk]
  show _ = _
  cases decide ((l.length : Int) = 0) <;> kernel_rfl
theorem chk2 {n : Nat} {a b c d e f g : Int} {l : List Int} : d_ops_Check n ⟨2, a, b, c, d, e, f, g, l⟩ = cond (decide (a < 0) || decide (a > 0)) (some false) (cond (decide (b < 0) || decide (b > 0)) (some false) (cond (decide (c < 0) || decide (c > 0)) (some false) (cond (decide (d < 0) || decide (d > 0)) (some false) (cond (decide (e < 1) || decide (e > 1073741824)) (some false) (cond (decide (f < 0) || decide (f > 1125899906842624)) (some false) (cond (decide (g < 0) || decide (g > 39)) (some false) (cond (decide ((l.length : Int) = 0)) (some true) (some false)))))))) := by
  unfold d_ops_Check
  simp only [blk]
  show _ = _
  cases decide ((l.length : Int) = 0) <;> kernel_rfl
theorem chk3 {n : Nat} {a b c d e f g : Int} {l : List Int} : d_ops_Check n ⟨3, a, b, c, d, e, f, g, l⟩ = cond (decide (a < 0) || decide (a > 0)) (some false) (cond (decide (b < 0) || decide (b > 0)) (some false) (cond (decide (c < 0) || decide (c > 0)) (some false) (cond (decide (d < 0) || decide (d > 0)) (some false) (cond (decide (e < 1) || decide (e > 1073741824)) (some false) (cond (decide (f < 0) || decide (f > 0)) (some false) (cond (decide (g < 0) || decide (g > 39)) (some false) (cond (decide ((l.length : Int) = 0)) (some true) (some false)))))))) := by
  unfold d_ops_Check
  simp only [blk]
  show _ = _
  cases decide ((l.length : Int) = 0) <;> kernel_rfl
theorem chk4 {n : Nat} {a b c d e f g : Int} {l : List Int} : d_ops_Check n ⟨4, a, b, c, d, e, f, g, l⟩ = cond (decide (a < 0) || decide (a > 3)) (some false) (cond (decide (b < 0) || decide (b > 4)) (some false) (cond (decide (c < 0) || decide (c > 1)) (some false) (cond (decide (d < 0) || decide (d > 0)) (some false) (cond (decide (e < 1) || decide (e > 1073741824)) (some false) (cond (decide (f < 0) || decide (f > 1125899906842624)) (some false) (cond (decide (g < 0) || decide (g > 0)) (some false) (cond (decide ((l.length : Int) = 0)) (some true) (some false)))))))) := by
  unfold d_ops_Check
  simp only [blk]
  show _ = _
  cases decide ((l.length : Int) = 0) <;> kernel_rfl
theorem chk5 {n : Nat} {a b c d e f g : Int} {l : List Int} : d_ops_Check n ⟨5, a, b, c, d, e, f, g, l⟩ = cond (decide (a < 0) || decide (a > 0)) (some false) (cond (decide (b < 0) || decide (b > 0)) (some false) (cond (decide (c < 0) || decide (c > 0)) (some false) (cond (decide (d < 0) || decide (d > 0)) (some false) (cond (decide (e < 1) || decide (e > 1073741824)) (some false) (cond (decide (f < 0) || decide (f > 1125899906842624)) (some false) (cond (decide (g < 0) || decide (g > 39)) (some false) (cond (decide ((l.length : Int) = 0)) (some true) (some false)))))))) := by
  unfold d_ops_Check
  simp only [blk]
  show _ = _
  cases decide ((l.length : Int) = 0) <;> kernel_rfl
theorem chk6 {n : Nat} {a b c d e f g : Int} {l : List Int} : d_ops_Check n ⟨6, a, b, c, d, e, f, g, l⟩ = cond (decide (a < 0) || decide (a > 3)) (some false) (cond (decide (b < 0) || decide (b > 4)) (some false) (cond (decide (c < 0) || decide (c > 1)) (some false) (cond (decide (d < 0) || decide (d > 0)) (some false) (cond (decide (e < 1) || decide (e > 1073741824)) (some false) (cond (decide (f < 0) || decide (f > 0)) (some false) (cond (decide (g < 0) || decide (g > 0)) (some false) (cond (decide ((l.length : Int) = 0)) (some true) (some false)))))))) := by
  unfold d_ops_Check
  simp only [blk]
  show _ = _
  cases decide ((l.length : Int) = 0) <;> kernel_rfl
theorem chk7 {n : Nat} {a b c d e f g : Int} {l : List Int} : d_ops_Check n ⟨7, a, b, c, d, e, f, g, l⟩ = cond (decide (a < 0) || decide (a > 3)) (some false) (cond (decide (b < 0) || decide (b > 4)) (some false) (cond (decide (c < 0) || decide (c > 1)) (some false) (cond (decide (d < 0) || decide (d > 0)) (some false) (cond (decide (e < 0) || decide (e > 1073741824)) (some false) (cond (decide (f < 0) || decide (f > 0)) (some false) (cond (decide (g < 0) || decide (g > 0)) (some false) (cond (decide ((l.length : Int) = 0)) (some true) (some false)))))))) := by
  unfold d_ops_Check
  simp only [blk]
  show _ = _
  cases decide ((l.length : Int) = 0) <;> kernel_rfl
theorem chk8 {n : Nat} {a b c d e f g : Int} {l : List Int} : d_ops_Check n ⟨8, a, b, c, d, e, f, g, l⟩ = cond (decide (a < 0) || decide (a > 3)) (some false) (cond (decide (b < 0) || decide (b > 4)) (some false) (cond (decide (c < 0) || decide (c > 1)) (some false) (cond (decide (d < 0) || decide (d > 1)) (some false) (cond (decide (e < 1) || decide (e > 1073741824)) (some false) (cond (decide (f < 0) || decide (f > 0)) (some false) (cond (decide (g < 0) || decide (g > 0)) (some false) (cond (decide ((l.length : Int) = 0)) (some (!decide (d = c))) (some false)))))))) := by
  unfold d_ops_Check
  simp only [blk]
  show _ = _
  cases decide ((l.length : Int) = 0) <;> cases decide (d = c) <;> kernel_rfl
theorem chk9 {n : Nat} {a b c d e f g : Int} {l : List Int} : d_ops_Check n ⟨9, a, b, c, d, e, f, g, l⟩ = cond (decide (a < 0) || decide (a > 3)) (some false) (cond (decide (b < 0) || decide (b > 4)) (some false) (cond (decide (c < 0) || decide (c > 0)) (some false) (cond (decide (d < 0) || decide (d > 0)) (some false) (cond (decide (e < 0) || decide (e > 0)) (some false) (cond (decide (f < 0) || decide (f > 1073741824)) (some false) (cond (decide (g < 0) || decide (g > 0)) (some false) (cond (decide ((l.length : Int) = 0)) (some true) (some false)))))))) := by
  unfold d_ops_Check
  simp only [blk]
  show _ = _
  cases decide ((l.length : Int) = 0) <;> kernel_rfl
theorem chk10 {n : Nat} {a b c d e f g : Int} {l : List Int} : d_ops_Check n ⟨10, a, b, c, d, e, f, g, l⟩ = cond (decide (a < 0) || decide (a > 3)) (some false) (cond (decide (b < 0) || decide (b > 4)) (some false) (cond (decide (c < 0) || decide (c > 0)) (some false) (cond (decide (d < 0) || decide (d > 0)) (some false) (cond (decide (e < 0) || decide (e > 0)) (some false) (cond (decide (f < 0) || decide (f > 1073741824)) (some false) (cond (decide (g < 0) || decide (g > 0)) (some false) (cond (decide ((l.length : Int) = 0)) (some true) (some false)))))))) := by
  unfold d_ops_Check
  simp only [blk]
  show _ = _
  cases decide ((l.length : Int) = 0) <;> kernel_rfl
theorem chk11 {n : Nat} {a b c d e f g : Int} {l : List Int} : d_ops_Check n ⟨11, a, b, c, d, e, f, g, l⟩ = cond (decide (a < 0) || decide (a > 0)) (some false) (cond (decide (b < 0) || decide (b > 0)) (some false) (cond (decide (c < 0) || decide (c > 0)) (some false) (cond (decide (d < 0) || decide (d > 2)) (some false) (cond (decide (e < 0) || decide (e > 0)) (some false) (cond (decide (f < 0) || decide (f > 1125899906842624)) (some false) (cond (decide (g < 0) || decide (g > 0)) (some false) ((d_ops_refs n l).bind fun x => some x))))))) := by
  unfold d_ops_Check
  simp only [blk]
  show _ = _
  cases decide ((l.length : Int) = 0) <;> kernel_rfl
theorem chk12 {n : Nat} {a b c d e f g : Int} {l : List Int} : d_ops_Check n ⟨12, a, b, c, d, e, f, g, l⟩ = cond (decide (a < 0) || decide (a > 3)) (some false) (cond (decide (b < 0) || decide (b > 4)) (some false) (cond (decide (c < 0) || decide (c > 1)) (some false) (cond (decide (d < 0) || decide (d > 3)) (some false) (cond (decide (e < 1) || decide (e > 1073741824)) (some false) (cond (decide (f < 0) || decide (f > 1125899906842624)) (some false) (cond (decide (g < 0) || decide (g > 0)) (some false) (cond (decide ((l.length : Int) = 0)) (some (!decide (d = a))) (some false)))))))) := by
  unfold d_ops_Check
  simp only [blk]
  show _ = _
  cases decide ((l.length : Int) = 0) <;> cases decide (d = a) <;> kernel_rfl
theorem chk13 {n : Nat} {a b c d e f g : Int} {l : List Int} : d_ops_Check n ⟨13, a, b, c, d, e, f, g, l⟩ = cond (decide (a < 0) || decide (a > 0)) (some false) (cond (decide (b < 0) || decide (b > 0)) (some false) (cond (decide (c < 0) || decide (c > 1)) (some false) (cond (decide (d < 0) || decide (d > 0)) (some false) (cond (decide (e < 1) || decide (e > 1073741824)) (some false) (cond (decide (f < 0) || decide (f > 0)) (some false) (cond (decide (g < 0) || decide (g > 39)) (some false) (cond (decide ((l.length : Int) = 0)) (some true) (some false)))))))) := by
  unfold d_ops_Check
  simp only [blk]
  show _ = _
  cases decide ((l.length : Int) = 0) <;> kernel_rfl
theorem chk14 {n : Nat} {a b c d e f g : Int} {l : List Int} : d_ops_Check n ⟨14, a, b, c, d, e, f, g, l⟩ = cond (decide (a < 0) || decide (a > 3)) (some false) (cond (decide (b < 0) || decide (b > 0)) (some false) (cond (decide (c < 0) || decide (c > 0)) (some false) (cond (decide (d < 0) || decide (d > 0)) (some false) (cond (decide (e < 0) || decide (e > 0)) (some false) (cond (decide (f < 0) || decide (f > 0)) (some false) (cond (decide (g < 0) || decide (g > 0)) (some false) (cond (decide ((l.length : Int) = 0)) (some true) (some false)))))))) := by
  unfold d_ops_Check
  simp only [blk]
  show _ = _
  cases decide ((l.length : Int) = 0) <;> kernel_rfl
theorem chk15 {n : Nat} {a b c d e f g : Int} {l : List Int} : d_ops_Check n ⟨15, a, b, c, d, e, f, g, l⟩ = cond (decide (a < 0) || decide (a > 3)) (some false) (cond (decide (b < 0) || decide (b > 0)) (some false) (cond (decide (c < 0) || decide (c > 0)) (some false) (cond (decide (d < 0) || decide (d > 0)) (some false) (cond (decide (e < 0) || decide (e > 0)) (some false) (cond (decide (f < 0) || decide (f > 0)) (some false) (cond (decide (g < 0) || decide (g > 0)) (some false) (cond (decide ((l.length : Int) = 0)) (some true) (some false)))))))) := by
  unfold d_ops_Check
  simp only [blk]
  show _ = _
  cases decide ((l.length : Int) = 0) <;> kernel_rfl
theorem chk16 {n : Nat} {a b c d e f g : Int} {l : List Int} : d_ops_Check n ⟨16, a, b, c, d, e, f, g, l⟩ = cond (decide (a < 0) || decide (a > 3)) (some false) (cond (decide (b < 0) || decide (b > 0)) (some false) (cond (decide (c < 0) || decide (c > 0)) (some false) (cond (decide (d < 0) || decide (d > 0)) (some false) (cond (decide (e < 0) || decide (e > 0)) (some false) (cond (decide (f < 0) || decide (f > 0)) (some false) (cond (decide (g < 0) || decide (g > 0)) (some false) (cond (decide ((l.length : Int) = 0)) (some true) (some false)))))))) := by
  unfold d_ops_Check
  simp only [blk]
  show _ = _
  cases decide ((l.length : Int) = 0) <;> kernel_rfl
end Go.Pv
