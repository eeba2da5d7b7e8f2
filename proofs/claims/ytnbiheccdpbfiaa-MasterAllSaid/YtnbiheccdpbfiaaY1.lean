import Derived.Test.YtnbiheccdpbfiaaPvAB
import Derived.Test.YtnbiheccdpbfiaaM1c
namespace Go.Pv
open Go.Proofs
set_option maxRecDepth 100000
theorem opn_GMaster {H : Type} {enc : TypeId × Value → H} {w : World} {held : Bool} : Opn enc Try.prog w held 43 GMaster.av (fun _ => True) := by
  intro fuel cs x h
  have c3 : Try.prog.cellsOf 3 = 1 := by kernel_rfl
  have c22 : Try.prog.cellsOf 22 = 1 := by kernel_rfl
  have c41 : Try.prog.cellsOf 41 = 1 := by kernel_rfl
  obtain ⟨hl, hf⟩ := opn_fields Try.underlying43 (N := 5) (by kernel_rfl) h
  have oi : Opn enc Try.prog w held 3 fI isI := opn_int Try.underlying3
  have ol := opn_list Try.underlying22 c3 (by decide) oi
  have om := opn_list Try.underlying41 c22 (by decide) ol
  match cs, hl with
  | [v0, v1, v2, v3, v4], _ =>
    obtain ⟨a0, h0, _⟩ := opn_field (hf 0 _ rfl) oi c3 rfl
    obtain ⟨a1, h1, _⟩ := opn_field (hf 1 _ rfl) oi c3 rfl
    obtain ⟨a2, h2, _⟩ := opn_field (hf 2 _ rfl) ol c22 rfl
    obtain ⟨a3, h3, _⟩ := opn_field (hf 3 _ rfl) om c41 rfl
    obtain ⟨a4, h4, _⟩ := opn_field (hf 4 _ rfl) om c41 rfl
    exact ⟨⟨a0, a1, a2, a3, a4⟩, (h0.app (h1.app (h2.app (h3.app h4)))), trivial⟩
end Go.Pv
