/- What comes in: structs, lists of what there is, as values over memory that is never written. -/
import Derived.Test.YtbcjcecegdfnpaaGreatPvAA
import Derived.Test.YtbcjcecegdfnpaaGreatPvU
import Derived.Deep.Slices
set_option linter.unusedSimpArgs false
set_option linter.unusedVariables false
namespace Go.Pv
open Go.ChangeShapes Go.WideShapes Go.ChangeAt Go.RowKit Go.Deep
section
variable {H : Type} {enc : TypeId × Value → H} {P : Program} {w : World} {held : Bool} {α : Type}
/-- What of type t comes in is what an element of α says, of which Q holds. -/
def Opn (enc : TypeId × Value → H) (P : Program) (w : World) (held : Bool) (t : TypeId) (g : α → List AV) (Q : α → Prop) : Prop :=
  ∀ fuel cs x, DataW.trod enc P w 0 (fun _ => true) held fuel t cs = some x → ∃ a : α, VL (s0 w) (g a) cs ∧ Q a
theorem opn_int {t : TypeId} (ht : P.underlying t = some (.int .i64)) : Opn enc P w held t fI isI := by
  intro fuel cs x h
  obtain ⟨m, rfl, rfl, hw⟩ := DataW.trod_int ht h
  exact ⟨m, .cons (.sc _) .nil, wf_isI hw⟩
/-- A field of it. -/
theorem opn_fields {t : TypeId} {fs : Array Field} {fuel N : Nat} {cs : List Value} {x : DataW H × List MemPlace} (ht : P.underlying t = some (.struct fs)) (hN : P.cellsOf t = N) (h : DataW.trod enc P w 0 (fun _ => true) held fuel t cs = some x) :
    cs.length = N ∧ ∀ (i : Nat) (f : Field), fs[i]? = some f → ∃ n y, DataW.trod enc P w 0 (fun _ => true) held n f.type ((cs.drop f.offset).take (P.cellsOf f.type)) = some y := by
  obtain ⟨xs, n, rfl, _, hl, hx, hf⟩ := DataW.trod_struct ht h
  refine ⟨hl.trans hN, fun i f hi => ⟨n, ?_⟩⟩
  have hlt : i < xs.length := by rw [hx]; exact (Array.getElem?_eq_some_iff.1 hi).1
  exact ⟨xs[i], by rw [hf i f hi]; exact List.getElem?_eq_getElem hlt⟩
theorem opn_field {f : Field} {k : Nat} {cs cs' : List Value} {g : α → List AV} {Q : α → Prop} (hh : ∃ n y, DataW.trod enc P w 0 (fun _ => true) held n f.type ((cs.drop f.offset).take (P.cellsOf f.type)) = some y) (ho : Opn enc P w held f.type g Q) (hc : P.cellsOf f.type = k)
    (e : (cs.drop f.offset).take k = cs') : ∃ a : α, VL (s0 w) (g a) cs' ∧ Q a := by
  obtain ⟨n, y, hy⟩ := hh
  rw [hc, e] at hy
  exact ho _ _ _ hy
theorem VL.app {s : Sit} {xs ys : List AV} {vs us : List Value} (h : VL s xs vs) (k : VL s ys us) : VL s (xs ++ ys) (vs ++ us) := by
  induction h with
  | nil => exact k
  | cons a _ ih => exact .cons a ih
/-- A struct that comes in. -/
theorem vr_agg {s : Sit} {xs : List AV} {cs : Array Value} (h : VL s xs cs.toList) : VR s (.agg xs) (.agg cs) :=
  .agg (by have := h.len; simpa using this) (fun i x v h1 h2 => h.get i x v h1 (by simpa using h2))
theorem opn_agg {t : TypeId} {fs : Array Field} {g : α → List AV} {Q : α → Prop} {v : Value} {d : DataW H} {ps : List MemPlace} {base : Nat} (ht : P.underlying t = some (.struct fs)) (h : Opn enc P w held t g Q) (hval : Value.okWide P w .any base t v)
    (hd : DataW.Trod enc P w 0 (fun _ => true) held t v d ps) : ∃ a cs, v = .agg cs ∧ VR (s0 w) (.agg (g a)) v ∧ Q a := by
  obtain ⟨cs, rfl, _⟩ := okWide_struct ht hval
  obtain ⟨fuel, hf⟩ := hd
  obtain ⟨a, h1, h2⟩ := h _ _ _ hf
  exact ⟨a, cs, rfl, vr_agg h1, h2⟩
end
end Go.Pv
