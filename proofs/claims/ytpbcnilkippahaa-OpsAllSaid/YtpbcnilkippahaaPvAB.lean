/- What comes in: structs, lists of what there is, as values over memory that is never written. -/
import Derived.Test.YtpbcnilkippahaaPvT
import Derived.Test.YtpbcnilkippahaaPvU
import Derived.Deep.Slices
set_option linter.unusedSimpArgs false
set_option linter.unusedVariables false
namespace Go.Pv
open Go.ChangeShapes Go.WideShapes Go.ChangeAt Go.RowKit Go.Deep
section
variable {H : Type} {enc : TypeId × Value → H} {P : Program} {w : World} {held : Bool} {α : Type}
def Opn (enc : TypeId × Value → H) (P : Program) (w : World) (held : Bool) (t : TypeId) (g : α → List AV) (Q : α → Prop) : Prop :=
  ∀ fuel cs x, DataW.trod enc P w 0 (fun _ => true) held fuel t cs = some x → ∃ a : α, VL (s0 w) (g a) cs ∧ Q a
theorem opn_int {t : TypeId} (ht : P.underlying t = some (.int .i64)) : Opn enc P w held t fI isI := by
  intro fuel cs x h
  obtain ⟨m, rfl, rfl, hw⟩ := DataW.trod_int ht h
  exact ⟨m, .cons (.sc _) .nil, wf_isI hw⟩
theorem VL.get2 {s : Sit} {xs : List AV} {vs : List Value} (h : VL s xs vs) {i : Nat} {x : AV} (hx : xs[i]? = some x) : ∃ v, vs[i]? = some v ∧ VR s x v := by
  have hi : i < vs.length := by rw [← h.len]; exact (List.getElem?_eq_some_iff.1 hx).1
  exact ⟨vs[i], List.getElem?_eq_getElem hi, h.get i x _ hx (List.getElem?_eq_getElem hi)⟩
theorem opn_list [Inhabited α] {t e : TypeId} {sz : Nat} {g : α → List AV} {Q : α → Prop} (ht : P.underlying t = some (.slice e)) (hc : P.cellsOf e = sz) (hs : 0 < sz) (h : Opn enc P w held e g Q) :
    Opn enc P w held t (fun l => [lst sz g l]) (fun l => l.length ≤ maxLen ∧ ∀ a ∈ l, Q a) := by
  intro fuel cs x hx
  rcases open_slice ht hx with ⟨rfl, _⟩ | ⟨a, len, cap, m, n, D, Pl, rfl, _, hl, hm, hmm, _, he⟩
  · exact ⟨[], .cons (.nil sz) .nil, Nat.zero_le _, by intro a ha; cases ha⟩
  · simp only [if_true] at hmm
    subst hmm
    by_cases hz : m = 0
    · subst hz
      have : len = 0 := by omega
      subst this
      exact ⟨[], .cons (.emp sz a) .nil, Nat.zero_le _, by intro a ha; cases ha⟩
    · rw [hc] at he
      obtain ⟨A, hA⟩ := choose_lt (α := α × List Value) (p := fun i y => w.cells? 0 (a.add (i * sz)) sz = some y.2 ∧ VL (s0 w) (g y.1) y.2 ∧ Q y.1) (n := m) (fun i hi => by
        obtain ⟨cs', h1, h2⟩ := he i hi
        obtain ⟨y, h3, h4⟩ := h _ _ _ h2
        exact ⟨(y, cs'), h1, h3, h4⟩)
      have c0 := (World.cells?_some (hA 0 (by omega)).1).2.2 0 hs
      have l0 := (World.cells?_some (hA 0 (by omega)).1).2.1
      rw [Nat.zero_mul] at c0
      have c1 : ∃ u, w.cell? a = some u := by
        refine ⟨(A 0).2[0]'(by omega), ?_⟩
        have : (a.add 0).add 0 = a := rfl
        rw [this] at c0
        rw [c0]; exact List.getElem?_eq_getElem _
      obtain ⟨b, off, spot⟩ := a
      obtain ⟨u, hu⟩ := c1
      have hsp : spot = none ∧ b < w.heap.size := by
        unfold World.cell? at hu
        cases hg : w.heap[b]? with
        | none => rw [hg] at hu; cases hu
        | some o =>
          rw [hg] at hu
          refine ⟨?_, (Array.getElem?_eq_some_iff.1 hg).1⟩
          cases o <;> simp at hu
          cases spot <;> simp_all
      obtain ⟨rfl, hb⟩ := hsp
      have hlen : (((List.range len).map fun i => (A i).1).map g).length = len := by simp
      have key : ∀ (i : Nat) (r : List AV), (((List.range len).map fun i => (A i).1).map g)[i]? = some r → i < len ∧ r = g (A i).1 := by
        intro i r hr
        have hi : i < len := by have := (List.getElem?_eq_some_iff.1 hr).1; omega
        refine ⟨hi, ?_⟩
        simp only [List.getElem?_map, List.getElem?_range hi, Option.map_some, Option.some.injEq] at hr
        exact hr.symm
      refine ⟨(List.range len).map fun i => (A i).1, .cons ?_ .nil, by simp; omega, ?_⟩
      · have := VR.list (s := s0 w) (sz := sz) (xs := ((List.range len).map fun i => (A i).1).map g) (b := b) (off := off) (cap := m) (fun i j => (A i).2.getD j undef) hb (by omega) hm
          (fun i r hr => by
            obtain ⟨hi, rfl⟩ := key i r hr
            rw [(hA i (by omega)).2.1.len]; exact (World.cells?_some (hA i (by omega)).1).2.1)
          (fun i r j x hr hx => by
            obtain ⟨hi, rfl⟩ := key i r hr
            obtain ⟨v, h1, h2⟩ := (hA i (by omega)).2.1.get2 hx
            have h3 := (World.cells?_some (hA i (by omega)).1)
            have hj : j < sz := by rw [← h3.2.1]; exact (List.getElem?_eq_some_iff.1 h1).1
            have h4 := h3.2.2 j hj
            rw [addr_add, addr_add] at h4
            show w.cell? _ = some ((A i).2.getD j undef)
            rw [h4, h1]; simp [List.getD, h1])
          (fun i r j x hr hx => by
            obtain ⟨hi, rfl⟩ := key i r hr
            obtain ⟨v, h1, h2⟩ := (hA i (by omega)).2.1.get2 hx
            show VR _ x ((A i).2.getD j undef)
            simp only [List.getD, h1, Option.getD_some]; exact h2)
        rw [hlen] at this
        exact this
      · intro y hy
        obtain ⟨i, hi, rfl⟩ := List.mem_map.1 hy
        exact (hA i (by have := List.mem_range.1 hi; omega)).2.2
theorem opn_fields {t : TypeId} {fs : Array Field} {fuel N : Nat} {cs : List Value} {x : DataW H × List MemPlace} (ht : P.underlying t = some (.struct fs)) (hN : P.cellsOf t = N) (h : DataW.trod enc P w 0 (fun _ => true) held fuel t cs = some x) :
    cs.length = N ∧ ∀ (i : Nat) (f : Field), fs[i]? = some f → ∃ n y, DataW.trod enc P w 0 (fun _ => true) held n f.type ((cs.drop f.offset).take (P.cellsOf f.type)) = some y := by
  obtain ⟨xs, n, rfl, _, hl, hx, hf⟩ := DataW.trod_struct ht h
  refine ⟨hl.trans hN, fun i f hi => ⟨n, ?_⟩⟩
  have hlt : i < xs.length := by rw [hx]; exact (Array.getElem?_eq_some_iff.1 hi).1
  exact ⟨xs[i], by rw [hf i f hi]; exact List.getElem?_eq_getElem hlt⟩
theorem opn_field {f : Field} {k : Nat} {cs cs' : List Value} {g : α → List AV} {Q : α → Prop} (hh : ∃ n y, DataW.trod enc P w 0 (fun _ => true) held n f.type ((cs.drop f.offset).take (P.cellsOf f.type)) = some y) (ho : Opn enc P w held f.type g Q) (hc : P.cellsOf f.type = k)
    (e : (cs.drop f.offset).take k = cs') : ∃ a : α, VL (s0 w) (g a) cs' ∧ Q a := by
  obtain ⟨n, y, hy⟩ := hh
  rw [hc, e] at hy
  exact ho _ _ _ hy
theorem VL.app {s : Sit} {xs ys : List AV} {vs us : List Value} (h : VL s xs vs) (k : VL s ys us) : VL s (xs ++ ys) (vs ++ us) := by
  induction h with
  | nil => exact k
  | cons a _ ih => exact .cons a ih
end
end Go.Pv
