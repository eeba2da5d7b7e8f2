import Derived.Test.YtiamgfjojjjggaaGreatPvP
import Derived.WalkKit
import Derived.ProofKit
import Derived.OpenShut
import Derived.ShutString
import Derived.ChangeOld
import Derived.Below
import Derived.Lib.ConvBytes
set_option linter.unusedSimpArgs false
set_option linter.unusedVariables false
namespace Go.Pv
open Go.ChangeShapes Go.WideShapes Go.ChangeAt Go.RowKit
def RowOf (w : World) (a : Option Addr) (len cap : Nat) (zs : List Int) : Prop :=
  (a = none ∧ len = 0 ∧ cap = 0 ∧ zs = []) ∨
  ∃ b off, a = some ⟨b, off, none⟩ ∧ b < w.heap.size ∧ len ≤ cap ∧ cap ≤ maxLen ∧ zs.length = cap ∧ (∀ i, i < zs.length → w.cell? ((⟨b, off, none⟩ : Addr).add i) = some (.int .i64 (zs.getD i 0))) ∧ ∀ n ∈ zs, (Lit.int .i64 n).wf = true
theorem row_of {H : Type} {enc : TypeId × Value → H} {P : Program} {w : World} {base b0 : Nat} {held : Bool} {t e : TypeId} {v : Value} {d : DataW H} {ps : List MemPlace} (ht : P.underlying t = some (.slice e)) (he : P.underlying e = some (.int .i64)) (hc : P.cellsOf e = 1)
    (hval : Value.okWide P w .any b0 t v) (h : DataW.Trod enc P w base (fun _ => true) held t v d ps) : ∃ a len cap zs, v = .slice a len cap ∧ RowOf w a len cap zs := by
  obtain ⟨a, len, cap, rfl⟩ := okWide_slice ht hval
  obtain ⟨fuel, hf⟩ := h
  rcases open_ints ht he hc hf with ⟨hcs, _⟩ | ⟨x, l, c, zs, hcs, _, hl, hm, hz, _, hcell, hwz⟩
  · simp [Value.cells] at hcs
    obtain ⟨rfl, rfl, rfl⟩ := hcs
    exact ⟨none, 0, 0, [], rfl, .inl ⟨rfl, rfl, rfl, rfl⟩⟩
  · simp [Value.cells] at hcs
    obtain ⟨rfl, rfl, rfl⟩ := hcs
    have hh : w.has P .any b0 x e cap := by
      simp only [Value.okWide, ht, Cell.okWide, Cell.ok] at hval
      first | exact hval.2.2 | (split at hval <;> simp_all)
    obtain ⟨_, hsp, row, cells, hsh, _⟩ := hh
    have hb : x.block < w.heap.size := by
      unfold World.shape? at hsh
      cases hg : w.heap[x.block]? with
      | none => rw [hg] at hsh; cases hsh
      | some o => exact (Array.getElem?_eq_some_iff.1 hg).1
    obtain ⟨b, off, spot⟩ := x
    have hsp : spot = none := hsp
    subst hsp
    exact ⟨_, _, _, zs, rfl, .inr ⟨b, off, rfl, hb, hl, hm, by simpa using hz, hcell, hwz⟩⟩
def s0 (w : World) : Sit := ⟨w, fun b => b < w.heap.size, fun _ => none, fun _ => False⟩
theorem vr_row {w : World} {a : Option Addr} {len cap : Nat} {zs : List Int} (h : RowOf w a len cap zs) : VR (s0 w) (ints (zs.take len)) (.slice a len cap) := by
  rcases h with ⟨rfl, rfl, rfl, rfl⟩ | ⟨b, off, rfl, hb, hl, hm, hz, hcell, hwz⟩
  · exact .nil 1
  · have hlen : ((zs.take len).map fun n => [int n]).length = len := by rw [List.length_map, List.length_take]; omega
    have key : ∀ (i : Nat) (r : List AV) (j : Nat) (x : AV), ((zs.take len).map fun n => [int n])[i]? = some r → r[j]? = some x → j = 0 ∧ x = int (zs.getD i 0) ∧ i < zs.length := by
      intro i r j x h1 h2
      rw [List.getElem?_map] at h1
      cases hg : (zs.take len)[i]? with
      | none => rw [hg] at h1; cases h1
      | some n =>
        rw [hg] at h1; simp only [Option.map_some, Option.some.injEq] at h1
        subst h1
        have hi := lt_of hg
        rw [List.length_take] at hi
        rw [List.getElem?_take] at hg
        have hn : zs.getD i 0 = n := by
          split at hg
          · simp [hg]
          · cases hg
        cases j with
        | zero => simp at h2; exact ⟨rfl, by rw [← h2, hn], by omega⟩
        | succ j => simp at h2
    have := VR.list (s := s0 w) (sz := 1) (xs := (zs.take len).map fun n => [int n]) (b := b) (off := off) (cap := cap) (fun i _ => .int .i64 (zs.getD i 0)) hb (by omega) hm
      (fun i r h1 => by
        rw [List.getElem?_map] at h1
        cases hg : (zs.take len)[i]? with
        | none => rw [hg] at h1; cases h1
        | some n => rw [hg] at h1; simp only [Option.map_some, Option.some.injEq] at h1; subst h1; rfl)
      (fun i r j x h1 h2 => by
        obtain ⟨rfl, rfl, hi⟩ := key i r j x h1 h2
        have := hcell i hi
        rw [addr_add] at this
        show w.cell? _ = _
        rw [Nat.mul_one, Nat.add_zero, this])
      (fun i r j x h1 h2 => by obtain ⟨rfl, rfl, hi⟩ := key i r j x h1 h2; exact .sc _)
    rw [hlen] at this
    exact this
inductive VL (s : Sit) : List AV → List Value → Prop
  | nil : VL s [] []
  | cons {x : AV} {v : Value} {xs : List AV} {vs : List Value} (h : VR s x v) (hs : VL s xs vs) : VL s (x :: xs) (v :: vs)
theorem VL.len {s : Sit} {xs : List AV} {vs : List Value} (h : VL s xs vs) : xs.length = vs.length := by
  induction h with
  | nil => rfl
  | cons _ _ ih => simp [ih]
theorem VL.get {s : Sit} {xs : List AV} {vs : List Value} (h : VL s xs vs) : ∀ (i : Nat) (x : AV) (v : Value), xs[i]? = some x → vs[i]? = some v → VR s x v := by
  induction h with
  | nil => intro i x v h1 _; simp at h1
  | cons ha _ ih =>
    intro i x v h1 h2
    cases i with
    | zero => simp at h1 h2; subst h1 h2; exact ha
    | succ i => exact ih i x v (by simpa using h1) (by simpa using h2)
theorem allR_of {s : Sit} {xs : List AV} {vs : List Value} (h : VL s xs vs) : AllR s xs vs.toArray :=
  ⟨by simp [h.len], fun i x v h1 h2 => h.get i x v h1 (by simpa using h2)⟩
end Go.Pv
set_option linter.unusedSimpArgs false
set_option linter.unusedVariables false
namespace Go.Pv
end Go.Pv
set_option linter.unusedSimpArgs false
set_option linter.unusedVariables false
namespace Go.Pv
end Go.Pv
set_option linter.unusedSimpArgs false
set_option linter.unusedVariables false
namespace Go.Pv
end Go.Pv
