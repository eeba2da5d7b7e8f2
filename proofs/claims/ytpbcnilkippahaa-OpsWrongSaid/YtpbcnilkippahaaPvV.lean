/- Append, make: cores and typed forms. -/
import Derived.Test.YtpbcnilkippahaaPvU
set_option linter.unusedSimpArgs false
set_option linter.unusedVariables false
namespace Go.Pv
section
variable {P : Program} {n : NT} {S : AS} {o : Oper} {T : TypeId} {x y : Operand}
variable {α : Type}
theorem one_map {g : α → List AV} (h : ∀ a, allOne (g a) = true) (l : List α) : ∀ r ∈ l.map g, allOne r = true := fun r hr => by
  obtain ⟨a, _, rfl⟩ := List.mem_map.1 hr; exact h a
theorem yl_appT {F U V : Nat → Prop} {e : TypeId} {sz by' : Nat} {zs : List Value} {id ver k : Nat} {ob : AObj} {p : AV} {g : α → List AV} {l m l' : List α} (hp : Pick F U V)
    (ho : o.op = .call { callee := .builtin .append, args := #[x, y], argTypes := #[T, T] }) (hT : P.underlying T = some (.slice e)) (hz : bsz P e = some (sz, zs)) (hby : bby P e = some by') (hb : Nat.ble by' 2048 = true)
    (hx : S.ev x = some (.sl id ver 0 k)) (hy : S.ev y = some p) (hob : S.hp id = some ob) (hver : ob.ver = ver) (hmt : ob.mt = true) (happ : ob.app = true) (hel : ob.elem = e) (hosz : ob.sz = sz) (hr : ob.rows = l.map g) (hk : k = l.length)
    (hcv : Cv S.hp p (lst sz g m)) (h1 : ∀ a, allOne (g a) = true) (hl : l ++ m = l') (hfit : l'.length ≤ 68719476736) :
    Yield P o S F U (fun z H' => ∃ ver', V ver' ∧ z = .sl id ver' 0 l'.length ∧ H' = upd S.hp id (some ⟨e, sz, true, true, ver', l'.map g⟩)) := by
  subst hl hk
  have hb' := Nat.le_of_ble_eq_true hb
  have e1 : l.length + (m.map g).length = (l ++ m).length := by rw [List.length_map, List.length_append]
  have hmul : (l ++ m).length * by' ≤ 68719476736 * 2048 := Nat.mul_le_mul hfit hb'
  have := yl_append (news := m.map g) hp ho hT hz hby hx hy hob hver hmt happ hel hosz (by rw [hr, List.length_map]) hcv (one_map h1 m) (by rw [e1]; omega) (by rw [e1]; omega)
  intro s a next Q q1 q2 q3 q4
  refine this s a next Q q1 q2 q3 ?_
  rintro s' v z H' ⟨ver', hV, rfl, rfl⟩
  refine q4 s' v _ _ ⟨ver', hV, by rw [e1], ?_⟩
  rw [hr, List.map_append]
  obtain ⟨oe, os, om, oa, ov, orr⟩ := ob
  simp only at hmt happ hel hosz hr
  subst hmt happ hel hosz
  rfl
theorem CvLL.list {H : AH} {sz : Nat} {xs ys : List (List AV)} (h : CvLL H xs ys) : Cv H (.list sz xs) (.list sz ys) := fun s hs v hv => by
  obtain ⟨h1, h2⟩ := h.get
  cases hv with
  | nil =>
    have : ys = [] := List.eq_nil_of_length_eq_zero (by simpa using h1.symm)
    subst this; exact .nil sz
  | emp _ a =>
    have : ys = [] := List.eq_nil_of_length_eq_zero (by simpa using h1.symm)
    subst this; exact .emp sz a
  | list f hI hc hm hr hf hv =>
    rw [h1]
    refine .list f hI (by omega) hm (fun i r hi => ?_) (fun i r j x hi hj => ?_) (fun i r j x hi hj => ?_)
    · obtain ⟨r0, g1, g2⟩ := h2 i r hi; rw [← g2.get.1]; exact hr i r0 g1
    · obtain ⟨r0, g1, g2⟩ := h2 i r hi
      obtain ⟨x0, g3, _⟩ := g2.get.2 j x hj
      exact hf i r0 j x0 g1 g3
    · obtain ⟨r0, g1, g2⟩ := h2 i r hi
      obtain ⟨x0, g3, g4⟩ := g2.get.2 j x hj
      exact g4 s hs _ (hv i r0 j x0 g1 g3)
inductive ZC : AV → Value → Prop
  | sc (v : Value) : ZC (.sc v) v
  | nil (sz : Nat) : ZC (.list sz []) (.slice none 0 0)
inductive ZL : List AV → List Value → Prop
  | nil : ZL [] []
  | cons {x : AV} {v : Value} {xs : List AV} {vs : List Value} (h : ZC x v) (t : ZL xs vs) : ZL (x :: xs) (v :: vs)
theorem ZL.get {xs : List AV} {vs : List Value} (h : ZL xs vs) : xs.length = vs.length ∧ ∀ (s : Sit) (j : Nat) (x : AV) (v : Value), xs[j]? = some x → vs[j]? = some v → VR s x v := by
  induction h with
  | nil => exact ⟨rfl, fun s j x v h => by simp at h⟩
  | cons h t ih =>
    refine ⟨by simp [ih.1], fun s j x v h1 h2 => ?_⟩
    cases j with
    | zero =>
      simp at h1 h2; subst h1 h2
      cases h with
      | sc => exact .sc _
      | nil => exact .nil _
    | succ j => exact ih.2 s j x v (by simpa using h1) (by simpa using h2)
end
end Go.Pv
