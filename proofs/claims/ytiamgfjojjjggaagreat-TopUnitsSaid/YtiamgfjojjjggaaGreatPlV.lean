/- Plain laws: a definition reckoned from its head. -/
import Derived.Test.YtiamgfjojjjggaaGreatPvAE
set_option linter.unusedSimpArgs false
set_option linter.unusedVariables false
namespace Go.Pv
section
variable {α β γ δ R : Type}
theorem v_bnd {x : α} {f : α → Option β} {r : Option β} (h : f x = r) : bnd x f = r := h
theorem v_w {x : Int} {f : Int → Option β} {r : Option β} (hx : -9223372036854775808 ≤ x ∧ x ≤ 9223372036854775807) (h : f x = r) : bnd (w64 x) f = r := by
  show f (w64 x) = r
  rw [show w64 x = x from wrap64 hx]; exact h
theorem v_T {p : Prop} [Decidable p] {f : Bool → Option β} {r : Option β} (hp : p) (h : f true = r) : bnd (decide p) f = r := by
  show f (decide p) = r
  rw [decide_eq_true hp]; exact h
theorem v_F {p : Prop} [Decidable p] {f : Bool → Option β} {r : Option β} (hp : ¬ p) (h : f false = r) : bnd (decide p) f = r := by
  show f (decide p) = r
  rw [decide_eq_false hp]; exact h
theorem v_nT {f : Bool → Option β} {r : Option β} (h : f false = r) : bnd (!true) f = r := h
theorem v_nF {f : Bool → Option β} {r : Option β} (h : f true = r) : bnd (!false) f = r := h
theorem v_cT {a b : Option β} {r : Option β} (h : a = r) : cond true a b = r := h
theorem v_cF {a b : Option β} {r : Option β} (h : b = r) : cond false a b = r := h
theorem v_as {p : Prop} [Decidable p] {k r : Option β} (hp : p) (h : k = r) : asrt p k = r := by unfold asrt; rw [if_pos hp]; exact h
theorem v_bi {x : Option α} {f : α → Option β} {a : α} {r : Option β} (hx : x = some a) (h : f a = r) : x.bind f = r := by rw [hx]; exact h
theorem v_ix {l : List α} {i : Int} {v : α} {f : α → Option β} {r : Option β} (h0 : 0 ≤ i) (hl : l[i.toNat]? = some v) (h : f v = r) : (ix l i).bind f = r := by
  unfold ix; rw [if_neg (by omega), hl]; exact h
theorem v_p2 {f : α → β → Option γ} {a : α} {b : β} {r : Option γ} (h : f a b = r) : p2 f (a, b) = r := h
theorem v_selb {f : α → Option β} {a : α} {r : Option β} (h : f a = r) : sel f (.inl a) = r := h
theorem v_sele {f : α → Option β} {c : β} {r : Option β} (h : some c = r) : sel f (.inr c) = r := h
theorem v_ifT {p : Prop} [Decidable p] {a b : α} {f : α → Option β} {r : Option β} (hp : p) (h : f a = r) : bnd (if p then a else b) f = r := by
  show f _ = r
  rw [if_pos hp]; exact h
theorem v_ifF {p : Prop} [Decidable p] {a b : α} {f : α → Option β} {r : Option β} (hp : ¬ p) (h : f b = r) : bnd (if p then a else b) f = r := by
  show f _ = r
  rw [if_neg hp]; exact h
theorem v_end {a : α} : some a = some a := rfl
theorem v_brk {a : α} {r : Option (α ⊕ β)} (h : some (.inl a) = r) : (brk a : Option (α ⊕ β)) = r := h
theorem v_esc {a : β} {r : Option (α ⊕ β)} (h : some (.inr a) = r) : (esc (some a) : Option (α ⊕ β)) = r := h
theorem v_fin {a b : α} (h : a = b) : some a = some b := congrArg some h
theorem v_wu {x : Int} {f : Int → Option β} {r : Option β} (hx : 0 ≤ x ∧ x ≤ 18446744073709551615) (h : f x = r) : bnd (wu64 x) f = r := by
  show f (wu64 x) = r
  rw [show wu64 x = x from wrapu64 hx]; exact h
theorem v_selrl {f : α → Option β} {g : γ → Option β} {a : α} {r : Option β} (h : f a = r) : selr f g (.inl a) = r := h
theorem v_selrr {f : α → Option β} {g : γ → Option β} {c : γ} {r : Option β} (h : g c = r) : selr f g (.inr c) = r := h
end
end Go.Pv
