/- Receipts that come in. -/
import Derived.Test.YtbcjcecegdfnpaaGreatPvAB
import Derived.Test.YtbcjcecegdfnpaaGreatD9
set_option linter.unusedSimpArgs false
set_option linter.unusedVariables false
namespace Go.Pv
open Go.Proofs
set_option maxRecDepth 100000
theorem opn_GReceipt {H : Type} {enc : TypeId × Value → H} {w : World} {held : Bool} : Opn enc Tryz.prog w held 44 GReceipt.av (fun r => isI r.Accrued ∧ isI r.Open) := by
  intro fuel cs x h
  have c3 : Tryz.prog.cellsOf 3 = 1 := by kernel_rfl
  obtain ⟨hl, hf⟩ := opn_fields Tryz.underlying44 (N := 8) (by kernel_rfl) h
  have oi : Opn enc Tryz.prog w held 3 fI isI := opn_int Tryz.underlying3
  match cs, hl with
  | [v0, v1, v2, v3, v4, v5, v6, v7], _ =>
    obtain ⟨a0, h0, _⟩ := opn_field (hf 0 _ rfl) oi c3 rfl
    obtain ⟨a1, h1, _⟩ := opn_field (hf 1 _ rfl) oi c3 rfl
    obtain ⟨a2, h2, _⟩ := opn_field (hf 2 _ rfl) oi c3 rfl
    obtain ⟨a3, h3, _⟩ := opn_field (hf 3 _ rfl) oi c3 rfl
    obtain ⟨a4, h4, _⟩ := opn_field (hf 4 _ rfl) oi c3 rfl
    obtain ⟨a5, h5, q5⟩ := opn_field (hf 5 _ rfl) oi c3 rfl
    obtain ⟨a6, h6, q6⟩ := opn_field (hf 6 _ rfl) oi c3 rfl
    obtain ⟨a7, h7, _⟩ := opn_field (hf 7 _ rfl) oi c3 rfl
    exact ⟨⟨a0, a1, a2, a3, a4, a5, a6, a7⟩, (h0.app (h1.app (h2.app (h3.app (h4.app (h5.app (h6.app h7))))))), ⟨q6, q5⟩⟩
end Go.Pv
