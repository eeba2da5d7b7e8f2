/- The last step: from a contract to the row. -/
import Derived.Test.YtogdmdlpnhbjkaaGreatPvP
import Derived.WalkKit
import Derived.ProofKit
import Derived.OpenShut
import Derived.ShutString
import Derived.ChangeOld
import Derived.Below
set_option linter.unusedSimpArgs false
set_option linter.unusedVariables false
namespace Go.Pv
open Go.ChangeShapes Go.WideShapes Go.ChangeAt Go.RowKit
def s0 (w : World) : Sit := ⟨w, fun b => b < w.heap.size, fun _ => none, fun _ => False⟩
inductive VL (s : Sit) : List AV → List Value → Prop
  | nil : VL s [] []
  | cons {x : AV} {v : Value} {xs : List AV} {vs : List Value} (h : VR s x v) (hs : VL s xs vs) : VL s (x :: xs) (v :: vs)
theorem VL.len {s : Sit} {xs : List AV} {vs : List Value} (h : VL s xs vs) : xs.length = vs.length := by
  induction h with
  | nil => rfl
  | cons _ _ ih => simp [ih]
theorem VL.get {s : Sit} {xs : List AV} {vs : List Value} (h : VL s xs vs) : ∀ (i : Nat) (x : AV) (v : Value), xs[i]? = some x → vs[i]? = some v → VR s x v := by
  induction h with
  | nil => intro i x v h1 _; simp at h1
  | cons ha _ ih =>
    intro i x v h1 h2
    cases i with
    | zero => simp at h1 h2; subst h1 h2; exact ha
    | succ i => exact ih i x v (by simpa using h1) (by simpa using h2)
theorem allR_of {s : Sit} {xs : List AV} {vs : List Value} (h : VL s xs vs) : AllR s xs vs.toArray :=
  ⟨by simp [h.len], fun i x v h1 h2 => h.get i x v h1 (by simpa using h2)⟩
end Go.Pv
