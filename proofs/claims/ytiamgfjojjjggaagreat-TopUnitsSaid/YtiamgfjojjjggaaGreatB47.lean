/- TopUnits: layers as pieces. -/
import Derived.Test.YtiamgfjojjjggaaGreatPlV
set_option linter.unusedSimpArgs false
set_option linter.unusedVariables false
namespace Go.Pv
set_option maxRecDepth 100000
set_option maxHeartbeats 400000
def su : List Int → Int | [] => 0 | x :: r => x + su r
def flat : List (Nat × Int) → List Int | [] => [] | x :: r => List.replicate x.1 x.2 ++ flat r
def cut : List (Nat × Int) → Nat → List (Nat × Int) | [], _ => [] | x :: r, q => if x.1 ≤ q then cut r (q - x.1) else (x.1 - q, x.2) :: r
def POk (l : List (Nat × Int)) : Prop := ∀ x ∈ l, 1 ≤ x.1 ∧ x.1 ≤ 12 ∧ 0 ≤ x.2 ∧ x.2 ≤ 89
theorem su_app : ∀ (a b : List Int), su (a ++ b) = su a + su b
  | [], b => by simp [su]
  | x :: a, b => by simp only [List.cons_append, su, su_app a b]; omega
theorem su_rep (p : Int) : ∀ n : Nat, su (List.replicate n p) = n * p
  | 0 => by simp [su]
  | n + 1 => by
    simp only [List.replicate_succ, su, su_rep p n]
    rw [Int.natCast_add, Int.add_mul]; omega
theorem POk.tail {x : Nat × Int} {r : List (Nat × Int)} (h : POk (x :: r)) : POk r := fun y hy => h y (List.mem_cons_of_mem _ hy)
theorem POk.head {x : Nat × Int} {r : List (Nat × Int)} (h : POk (x :: r)) : 1 ≤ x.1 ∧ x.1 ≤ 12 ∧ 0 ≤ x.2 ∧ x.2 ≤ 89 := h x List.mem_cons_self
theorem cut_ok : ∀ {l : List (Nat × Int)} {q : Nat}, POk l → POk (cut l q)
  | [], _, h => h
  | x :: r, q, h => by
    unfold cut
    split
    · exact cut_ok h.tail
    · intro y hy
      rcases List.mem_cons.1 hy with rfl | hy
      · have := h.head; exact ⟨by simp only; omega, by simp only; omega, this.2.2⟩
      · exact h.tail y hy
theorem cutL_len : ∀ {l : List (Nat × Int)} {q : Nat}, (cut l q).length ≤ l.length
  | [], _ => by simp [cut]
  | x :: r, q => by
    unfold cut
    split
    · have := cutL_len (l := r) (q := q - x.1); simp only [List.length_cons]; omega
    · simp
theorem flat_cut : ∀ {l : List (Nat × Int)} {q : Nat}, flat (cut l q) = (flat l).drop q
  | [], q => by simp [cut, flat]
  | x :: r, q => by
    unfold cut
    split
    · rename_i h
      rw [flat_cut, flat, List.drop_append, List.drop_eq_nil_of_le (as := List.replicate x.1 x.2) (by simpa using h)]; simp
    · rename_i h
      rw [flat, flat, List.drop_append, List.drop_replicate, show q - (List.replicate x.1 x.2).length = 0 by simp; omega]; simp
theorem cut0 : ∀ {l : List (Nat × Int)}, POk l → cut l 0 = l
  | [], _ => rfl
  | x :: r, h => by unfold cut; rw [if_neg (by have := h.head; omega)]; simp
theorem take_cons (x : Nat × Int) (r : List (Nat × Int)) (q : Nat) : su ((flat (x :: r)).take q) = if x.1 ≤ q then x.1 * x.2 + su ((flat r).take (q - x.1)) else q * x.2 := by
  rw [flat, List.take_append, su_app]
  split
  · rename_i h
    rw [List.take_replicate, su_rep, Nat.min_eq_right h]; simp
  · rename_i h
    rw [List.take_replicate, su_rep, Nat.min_eq_left (by omega), show q - (List.replicate x.1 x.2).length = 0 by simp; omega]; simp [su]
theorem flat_app : ∀ (a b : List (Nat × Int)), flat (a ++ b) = flat a ++ flat b
  | [], b => rfl
  | x :: a, b => by rw [List.cons_append, flat, flat, flat_app a b, List.append_assoc]
theorem POk.app {l : List (Nat × Int)} (h : POk l) {n : Nat} {p : Int} (hn : 1 ≤ n ∧ n ≤ 12) (hp : 0 ≤ p ∧ p ≤ 89) : POk (l ++ [(n, p)]) := fun x hx => by
  rcases List.mem_append.1 hx with hx | hx
  · exact h x hx
  · rw [List.mem_singleton.1 hx]; exact ⟨hn.1, hn.2, hp⟩
theorem flatL_len : ∀ {l : List (Nat × Int)}, POk l → l.length ≤ (flat l).length ∧ (flat l).length ≤ 12 * l.length
  | [], _ => by simp [flat]
  | x :: r, h => by
    have := flatL_len h.tail; have := h.head
    simp only [flat, List.length_append, List.length_replicate, List.length_cons]; omega
theorem flat_in : ∀ {l : List (Nat × Int)}, POk l → ∀ y ∈ flat l, 0 ≤ y ∧ y ≤ 89
  | [], _ => by simp [flat]
  | x :: r, h => by
    intro y hy
    rw [flat] at hy
    rcases List.mem_append.1 hy with hy | hy
    · rw [(List.mem_replicate.1 hy).2]; exact h.head.2.2
    · exact flat_in h.tail y hy
theorem su_le : ∀ {l : List Int}, (∀ y ∈ l, 0 ≤ y ∧ y ≤ 89) → 0 ≤ su l ∧ su l ≤ 89 * l.length
  | [], _ => by simp [su]
  | x :: r, h => by
    have h1 := h x List.mem_cons_self; have h2 := su_le (l := r) fun y hy => h y (List.mem_cons_of_mem _ hy)
    simp only [su, List.length_cons]; omega
theorem su_take {l : List Int} (h : ∀ y ∈ l, 0 ≤ y ∧ y ≤ 89) (q : Nat) : su (l.take q) + su (l.drop q) = su l ∧ 0 ≤ su (l.take q) ∧ 0 ≤ su (l.drop q) := by
  refine ⟨by rw [← su_app, List.take_append_drop], (su_le fun y hy => h y (List.mem_of_mem_take hy)).1, (su_le fun y hy => h y (List.mem_of_mem_drop hy)).1⟩
end Go.Pv
