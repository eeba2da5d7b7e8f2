/- AdjustMoves: plain law. -/
import Derived.Test.YtppokdmifjmdfaaGreatS31
set_option linter.unusedSimpArgs false
set_option linter.unusedVariables false
namespace Go.Pv
open Go.Proofs
set_option maxRecDepth 100000
set_option maxHeartbeats 2000000
theorem auto17 {α : Type} {D : Option α} {r : α} (h : D = some r := by unfold d_law17_AdjustMoves; repeat (first | with_reducible exact v_end | ((with_reducible refine v_fin ?_); (exact rfl)) | ((with_reducible refine v_w ?_ ?_); · first | omega | decide | (dsimp only; omega) | (simp; done) | (simp; omega)) | ((with_reducible refine v_wu ?_ ?_); · first | omega | decide | (dsimp only; omega) | (simp; done) | (simp; omega)) | ((with_reducible refine v_T ?_ ?_); · first | omega | decide | (dsimp only; omega) | (simp; done) | (simp; omega) | (exact of_decide_eq_true rfl)) | ((with_reducible refine v_F ?_ ?_); · first | omega | decide | (dsimp only; omega) | (simp; done) | (simp; omega) | (exact of_decide_eq_true rfl)) | with_reducible refine v_nT ?_ | with_reducible refine v_nF ?_ | with_reducible refine v_cT ?_ | with_reducible refine v_cF ?_ | ((with_reducible refine v_as ?_ ?_); · first | omega | decide | (dsimp only; omega) | (simp; done) | (simp; omega) | (exact of_decide_eq_true rfl)) | ((with_reducible apply v_ix); (first | omega | decide | (simp; done) | (dsimp only [List.length_cons, List.length_nil]; omega)); (exact rfl)) | with_reducible refine v_p2 ?_ | with_reducible refine v_selb ?_ | with_reducible refine v_sele ?_ | with_reducible refine v_selrl ?_ | with_reducible refine v_selrr ?_ | ((with_reducible refine v_ifT ?_ ?_); · first | omega | decide | (dsimp only; omega)) | ((with_reducible refine v_ifF ?_ ?_); · first | omega | decide | (dsimp only; omega)) | with_reducible refine v_bi (by assumption) ?_ | with_reducible refine v_brk ?_ | with_reducible refine v_esc ?_ | dsimp only [List.nil_append, List.cons_append] | with_reducible apply v_bi | with_reducible refine v_bnd ?_)) : D = some r := h
theorem aw17 : d_law17_awake 80 = some true := by decide +kernel
theorem mv0a {a b c p q : Int} (p0 : 0 ≤ p) (p1 : p < 100) (q0 : 0 ≤ q) (q1 : q < p) (e1 : d_law00_Place a 4 = some 0) (e2 : d_law00_Place b 100 = some p) (e3 : d_law00_Place c (1 + p) = some q) : d_law17_AdjustMoves 80 a b c = some true := by
  have hS := st0_r (1 + p) (by omega) (by omega)
  have hM := ma0_r (1 + p) (1 + q) (by omega) (by omega) (by omega) (by omega)
  have hN := na0_r (1 + p) (1 + q) (by omega) (by omega) (by omega) (by omega)
  have hO := oa0_r (1 + p) (1 + q) (by omega) (by omega) (by omega) (by omega)
  have hW := wa0_r (1 + p) (1 + q) (by omega) (by omega) (by omega) (by omega)
  have hR : d_stock_Ready (F1 [F4 [⟨(1 + p), 10 * (1 + p), 0⟩], F4 [], F4 [], F4 [], F4 [], F4 [], F4 [], F4 []] (10 * (1 + p)) [F3 (10 * (1 + p)), F3 0, F3 0, F3 0] (1 + p) 0) 0 0 = some 0 := rfl
  have hR2 : d_stock_Ready (F1 [F4 [⟨(1 + p) - (1 + q), 10 * (1 + p) - 10 * (1 + q), 0⟩], F4 [⟨(1 + q), 10 * (1 + q), 0⟩], F4 [], F4 [], F4 [], F4 [], F4 [], F4 []] (10 * (1 + p)) [F3 (10 * (1 + p)), F3 0, F3 0, F3 0] (1 + p) 0) 0 0 = some 0 := rfl
  have hA : d_ref14_At (F1 [F4 [⟨(1 + p) - (1 + q), 10 * (1 + p) - 10 * (1 + q), 0⟩, ⟨(1 + q), 10 * (1 + q), 0⟩], F4 [], F4 [], F4 [], F4 [], F4 [], F4 [], F4 []] (10 * (1 + p)) [F3 (10 * (1 + p)), F3 0, F3 0, F3 0] (1 + p) 0) 0 0 1 = some (F4 []) := rfl
  have hw := aw17
  exact auto17
theorem mv0b {a b c p : Int} (p0 : 0 ≤ p) (p1 : p < 100) (e1 : d_law00_Place a 4 = some 0) (e2 : d_law00_Place b 100 = some p) (e3 : d_law00_Place c (1 + p) = some p) : d_law17_AdjustMoves 80 a b c = some true := by
  have hS := st0_r (1 + p) (by omega) (by omega)
  have hM := mb0_r (1 + p) (by omega) (by omega)
  have hN := nb0_r (1 + p) (by omega) (by omega)
  have hO := ob0_r (1 + p) (by omega) (by omega)
  have hO : d_adjust_move 80 (F1 [F4 [], F4 [⟨(1 + p), 10 * (1 + p), 0⟩], F4 [], F4 [], F4 [], F4 [], F4 [], F4 []] (10 * (1 + p)) [F3 (10 * (1 + p)), F3 0, F3 0, F3 0] (1 + p) 0) ⟨8, 0, 0, 0, 1, 1 + p - (1 + p) + 1, 0, 0, []⟩ = some ((F1 [F4 [], F4 [⟨(1 + p), 10 * (1 + p), 0⟩], F4 [], F4 [], F4 [], F4 [], F4 [], F4 []] (10 * (1 + p)) [F3 (10 * (1 + p)), F3 0, F3 0, F3 0] (1 + p) 0), 5) := by rw [show 1 + p - (1 + p) + 1 = (1 : Int) from by omega]; exact hO
  have hW := wb0_r (1 + p) (by omega) (by omega)
  have hR : d_stock_Ready (F1 [F4 [⟨(1 + p), 10 * (1 + p), 0⟩], F4 [], F4 [], F4 [], F4 [], F4 [], F4 [], F4 []] (10 * (1 + p)) [F3 (10 * (1 + p)), F3 0, F3 0, F3 0] (1 + p) 0) 0 0 = some 0 := rfl
  have hR2 : d_stock_Ready (F1 [F4 [], F4 [⟨(1 + p), 10 * (1 + p), 0⟩], F4 [], F4 [], F4 [], F4 [], F4 [], F4 []] (10 * (1 + p)) [F3 (10 * (1 + p)), F3 0, F3 0, F3 0] (1 + p) 0) 0 0 = some 0 := rfl
  have hA : d_ref14_At (F1 [F4 [⟨(1 + p), 10 * (1 + p), 0⟩], F4 [], F4 [], F4 [], F4 [], F4 [], F4 [], F4 []] (10 * (1 + p)) [F3 (10 * (1 + p)), F3 0, F3 0, F3 0] (1 + p) 0) 0 0 1 = some (F4 []) := rfl
  have hw := aw17
  exact auto17
theorem mv1a {a b c p q : Int} (p0 : 0 ≤ p) (p1 : p < 100) (q0 : 0 ≤ q) (q1 : q < p) (e1 : d_law00_Place a 4 = some 1) (e2 : d_law00_Place b 100 = some p) (e3 : d_law00_Place c (1 + p) = some q) : d_law17_AdjustMoves 80 a b c = some true := by
  have hS := st1_r (1 + p) (by omega) (by omega)
  have hM := ma1_r (1 + p) (1 + q) (by omega) (by omega) (by omega) (by omega)
  have hN := na1_r (1 + p) (1 + q) (by omega) (by omega) (by omega) (by omega)
  have hO := oa1_r (1 + p) (1 + q) (by omega) (by omega) (by omega) (by omega)
  have hW := wb1_r (1 + p) (by omega) (by omega)
  have hR : d_stock_Ready (F1 [F4 [], F4 [], F4 [⟨(1 + p), 10 * (1 + p), 0⟩], F4 [], F4 [], F4 [], F4 [], F4 []] (10 * (1 + p)) [F3 0, F3 (10 * (1 + p)), F3 0, F3 0] (1 + p) 1) 0 1 = some 0 := rfl
  have hR2 : d_stock_Ready (F1 [F4 [], F4 [], F4 [⟨(1 + p) - (1 + q), 10 * (1 + p) - 10 * (1 + q), 0⟩], F4 [⟨(1 + q), 10 * (1 + q), 0⟩], F4 [], F4 [], F4 [], F4 []] (10 * (1 + p)) [F3 0, F3 (10 * (1 + p)), F3 0, F3 0] (1 + p) 1) 0 1 = some 0 := rfl
  have hA : d_ref14_At (F1 [F4 [], F4 [], F4 [⟨(1 + p), 10 * (1 + p), 0⟩], F4 [], F4 [], F4 [], F4 [], F4 []] (10 * (1 + p)) [F3 0, F3 (10 * (1 + p)), F3 0, F3 0] (1 + p) 1) 0 1 1 = some (F4 []) := rfl
  have hw := aw17
  exact auto17
theorem mv1b {a b c p : Int} (p0 : 0 ≤ p) (p1 : p < 100) (e1 : d_law00_Place a 4 = some 1) (e2 : d_law00_Place b 100 = some p) (e3 : d_law00_Place c (1 + p) = some p) : d_law17_AdjustMoves 80 a b c = some true := by
  have hS := st1_r (1 + p) (by omega) (by omega)
  have hM := mb1_r (1 + p) (by omega) (by omega)
  have hN := nb1_r (1 + p) (by omega) (by omega)
  have hO := ob1_r (1 + p) (by omega) (by omega)
  have hO : d_adjust_move 80 (F1 [F4 [], F4 [], F4 [], F4 [⟨(1 + p), 10 * (1 + p), 0⟩], F4 [], F4 [], F4 [], F4 []] (10 * (1 + p)) [F3 0, F3 (10 * (1 + p)), F3 0, F3 0] (1 + p) 1) ⟨8, 0, 1, 0, 1, 1 + p - (1 + p) + 1, 0, 0, []⟩ = some ((F1 [F4 [], F4 [], F4 [], F4 [⟨(1 + p), 10 * (1 + p), 0⟩], F4 [], F4 [], F4 [], F4 []] (10 * (1 + p)) [F3 0, F3 (10 * (1 + p)), F3 0, F3 0] (1 + p) 1), 5) := by rw [show 1 + p - (1 + p) + 1 = (1 : Int) from by omega]; exact hO
  have hW := wb1_r (1 + p) (by omega) (by omega)
  have hR : d_stock_Ready (F1 [F4 [], F4 [], F4 [⟨(1 + p), 10 * (1 + p), 0⟩], F4 [], F4 [], F4 [], F4 [], F4 []] (10 * (1 + p)) [F3 0, F3 (10 * (1 + p)), F3 0, F3 0] (1 + p) 1) 0 1 = some 0 := rfl
  have hR2 : d_stock_Ready (F1 [F4 [], F4 [], F4 [], F4 [⟨(1 + p), 10 * (1 + p), 0⟩], F4 [], F4 [], F4 [], F4 []] (10 * (1 + p)) [F3 0, F3 (10 * (1 + p)), F3 0, F3 0] (1 + p) 1) 0 1 = some 0 := rfl
  have hA : d_ref14_At (F1 [F4 [], F4 [], F4 [⟨(1 + p), 10 * (1 + p), 0⟩], F4 [], F4 [], F4 [], F4 [], F4 []] (10 * (1 + p)) [F3 0, F3 (10 * (1 + p)), F3 0, F3 0] (1 + p) 1) 0 1 1 = some (F4 []) := rfl
  have hw := aw17
  exact auto17
theorem mv2a {a b c p q : Int} (p0 : 0 ≤ p) (p1 : p < 100) (q0 : 0 ≤ q) (q1 : q < p) (e1 : d_law00_Place a 4 = some 2) (e2 : d_law00_Place b 100 = some p) (e3 : d_law00_Place c (1 + p) = some q) : d_law17_AdjustMoves 80 a b c = some true := by
  have hS := st2_r (1 + p) (by omega) (by omega)
  have hM := ma2_r (1 + p) (1 + q) (by omega) (by omega) (by omega) (by omega)
  have hN := na2_r (1 + p) (1 + q) (by omega) (by omega) (by omega) (by omega)
  have hO := oa2_r (1 + p) (1 + q) (by omega) (by omega) (by omega) (by omega)
  have hW := wb2_r (1 + p) (by omega) (by omega)
  have hR : d_stock_Ready (F1 [F4 [], F4 [], F4 [], F4 [], F4 [⟨(1 + p), 10 * (1 + p), 0⟩], F4 [], F4 [], F4 []] (10 * (1 + p)) [F3 0, F3 0, F3 (10 * (1 + p)), F3 0] (1 + p) 2) 0 2 = some 0 := rfl
  have hR2 : d_stock_Ready (F1 [F4 [], F4 [], F4 [], F4 [], F4 [⟨(1 + p) - (1 + q), 10 * (1 + p) - 10 * (1 + q), 0⟩], F4 [⟨(1 + q), 10 * (1 + q), 0⟩], F4 [], F4 []] (10 * (1 + p)) [F3 0, F3 0, F3 (10 * (1 + p)), F3 0] (1 + p) 2) 0 2 = some 0 := rfl
  have hA : d_ref14_At (F1 [F4 [], F4 [], F4 [], F4 [], F4 [⟨(1 + p), 10 * (1 + p), 0⟩], F4 [], F4 [], F4 []] (10 * (1 + p)) [F3 0, F3 0, F3 (10 * (1 + p)), F3 0] (1 + p) 2) 0 2 1 = some (F4 []) := rfl
  have hw := aw17
  exact auto17
theorem mv2b {a b c p : Int} (p0 : 0 ≤ p) (p1 : p < 100) (e1 : d_law00_Place a 4 = some 2) (e2 : d_law00_Place b 100 = some p) (e3 : d_law00_Place c (1 + p) = some p) : d_law17_AdjustMoves 80 a b c = some true := by
  have hS := st2_r (1 + p) (by omega) (by omega)
  have hM := mb2_r (1 + p) (by omega) (by omega)
  have hN := nb2_r (1 + p) (by omega) (by omega)
  have hO := ob2_r (1 + p) (by omega) (by omega)
  have hO : d_adjust_move 80 (F1 [F4 [], F4 [], F4 [], F4 [], F4 [], F4 [⟨(1 + p), 10 * (1 + p), 0⟩], F4 [], F4 []] (10 * (1 + p)) [F3 0, F3 0, F3 (10 * (1 + p)), F3 0] (1 + p) 2) ⟨8, 0, 2, 0, 1, 1 + p - (1 + p) + 1, 0, 0, []⟩ = some ((F1 [F4 [], F4 [], F4 [], F4 [], F4 [], F4 [⟨(1 + p), 10 * (1 + p), 0⟩], F4 [], F4 []] (10 * (1 + p)) [F3 0, F3 0, F3 (10 * (1 + p)), F3 0] (1 + p) 2), 5) := by rw [show 1 + p - (1 + p) + 1 = (1 : Int) from by omega]; exact hO
  have hW := wb2_r (1 + p) (by omega) (by omega)
  have hR : d_stock_Ready (F1 [F4 [], F4 [], F4 [], F4 [], F4 [⟨(1 + p), 10 * (1 + p), 0⟩], F4 [], F4 [], F4 []] (10 * (1 + p)) [F3 0, F3 0, F3 (10 * (1 + p)), F3 0] (1 + p) 2) 0 2 = some 0 := rfl
  have hR2 : d_stock_Ready (F1 [F4 [], F4 [], F4 [], F4 [], F4 [], F4 [⟨(1 + p), 10 * (1 + p), 0⟩], F4 [], F4 []] (10 * (1 + p)) [F3 0, F3 0, F3 (10 * (1 + p)), F3 0] (1 + p) 2) 0 2 = some 0 := rfl
  have hA : d_ref14_At (F1 [F4 [], F4 [], F4 [], F4 [], F4 [⟨(1 + p), 10 * (1 + p), 0⟩], F4 [], F4 [], F4 []] (10 * (1 + p)) [F3 0, F3 0, F3 (10 * (1 + p)), F3 0] (1 + p) 2) 0 2 1 = some (F4 []) := rfl
  have hw := aw17
  exact auto17
theorem mv3a {a b c p q : Int} (p0 : 0 ≤ p) (p1 : p < 100) (q0 : 0 ≤ q) (q1 : q < p) (e1 : d_law00_Place a 4 = some 3) (e2 : d_law00_Place b 100 = some p) (e3 : d_law00_Place c (1 + p) = some q) : d_law17_AdjustMoves 80 a b c = some true := by
  have hS := st3_r (1 + p) (by omega) (by omega)
  have hM := ma3_r (1 + p) (1 + q) (by omega) (by omega) (by omega) (by omega)
  have hN := na3_r (1 + p) (1 + q) (by omega) (by omega) (by omega) (by omega)
  have hO := oa3_r (1 + p) (1 + q) (by omega) (by omega) (by omega) (by omega)
  have hW := wb3_r (1 + p) (by omega) (by omega)
  have hR : d_stock_Ready (F1 [F4 [], F4 [], F4 [], F4 [], F4 [], F4 [], F4 [⟨(1 + p), 10 * (1 + p), 0⟩], F4 []] (10 * (1 + p)) [F3 0, F3 0, F3 0, F3 (10 * (1 + p))] (1 + p) 3) 0 3 = some 0 := rfl
  have hR2 : d_stock_Ready (F1 [F4 [], F4 [], F4 [], F4 [], F4 [], F4 [], F4 [⟨(1 + p) - (1 + q), 10 * (1 + p) - 10 * (1 + q), 0⟩], F4 [⟨(1 + q), 10 * (1 + q), 0⟩]] (10 * (1 + p)) [F3 0, F3 0, F3 0, F3 (10 * (1 + p))] (1 + p) 3) 0 3 = some 0 := rfl
  have hA : d_ref14_At (F1 [F4 [], F4 [], F4 [], F4 [], F4 [], F4 [], F4 [⟨(1 + p), 10 * (1 + p), 0⟩], F4 []] (10 * (1 + p)) [F3 0, F3 0, F3 0, F3 (10 * (1 + p))] (1 + p) 3) 0 3 1 = some (F4 []) := rfl
  have hw := aw17
  exact auto17
theorem mv3b {a b c p : Int} (p0 : 0 ≤ p) (p1 : p < 100) (e1 : d_law00_Place a 4 = some 3) (e2 : d_law00_Place b 100 = some p) (e3 : d_law00_Place c (1 + p) = some p) : d_law17_AdjustMoves 80 a b c = some true := by
  have hS := st3_r (1 + p) (by omega) (by omega)
  have hM := mb3_r (1 + p) (by omega) (by omega)
  have hN := nb3_r (1 + p) (by omega) (by omega)
  have hO := ob3_r (1 + p) (by omega) (by omega)
  have hO : d_adjust_move 80 (F1 [F4 [], F4 [], F4 [], F4 [], F4 [], F4 [], F4 [], F4 [⟨(1 + p), 10 * (1 + p), 0⟩]] (10 * (1 + p)) [F3 0, F3 0, F3 0, F3 (10 * (1 + p))] (1 + p) 3) ⟨8, 0, 3, 0, 1, 1 + p - (1 + p) + 1, 0, 0, []⟩ = some ((F1 [F4 [], F4 [], F4 [], F4 [], F4 [], F4 [], F4 [], F4 [⟨(1 + p), 10 * (1 + p), 0⟩]] (10 * (1 + p)) [F3 0, F3 0, F3 0, F3 (10 * (1 + p))] (1 + p) 3), 5) := by rw [show 1 + p - (1 + p) + 1 = (1 : Int) from by omega]; exact hO
  have hW := wb3_r (1 + p) (by omega) (by omega)
  have hR : d_stock_Ready (F1 [F4 [], F4 [], F4 [], F4 [], F4 [], F4 [], F4 [⟨(1 + p), 10 * (1 + p), 0⟩], F4 []] (10 * (1 + p)) [F3 0, F3 0, F3 0, F3 (10 * (1 + p))] (1 + p) 3) 0 3 = some 0 := rfl
  have hR2 : d_stock_Ready (F1 [F4 [], F4 [], F4 [], F4 [], F4 [], F4 [], F4 [], F4 [⟨(1 + p), 10 * (1 + p), 0⟩]] (10 * (1 + p)) [F3 0, F3 0, F3 0, F3 (10 * (1 + p))] (1 + p) 3) 0 3 = some 0 := rfl
  have hA : d_ref14_At (F1 [F4 [], F4 [], F4 [], F4 [], F4 [], F4 [], F4 [⟨(1 + p), 10 * (1 + p), 0⟩], F4 []] (10 * (1 + p)) [F3 0, F3 0, F3 0, F3 (10 * (1 + p))] (1 + p) 3) 0 3 1 = some (F4 []) := rfl
  have hw := aw17
  exact auto17
theorem adjustMoves_plain {a b c : Int} (ha : -9223372036854775808 ≤ a ∧ a ≤ 9223372036854775807) (hb : -9223372036854775808 ≤ b ∧ b ≤ 9223372036854775807) (hc : -9223372036854775808 ≤ c ∧ c ≤ 9223372036854775807) : d_law17_AdjustMoves 80 a b c = some true := by
  obtain ⟨i, e1, i0, i1⟩ := place_e (n := 4) (by decide) ha
  obtain ⟨p, e2, p0, p1⟩ := place_e (n := 100) (by decide) hb
  obtain ⟨q, e3, q0, q1⟩ := place_e (n := 1 + p) (by omega) hc
  have hi : i = 0 ∨ i = 1 ∨ i = 2 ∨ i = 3 := by omega
  by_cases h : q < p
  · rcases hi with rfl | rfl | rfl | rfl
    · exact mv0a p0 p1 q0 h e1 e2 e3
    · exact mv1a p0 p1 q0 h e1 e2 e3
    · exact mv2a p0 p1 q0 h e1 e2 e3
    · exact mv3a p0 p1 q0 h e1 e2 e3
  · have hq : q = p := by omega
    subst hq
    rcases hi with rfl | rfl | rfl | rfl
    · exact mv0b p0 p1 e1 e2 e3
    · exact mv1b p0 p1 e1 e2 e3
    · exact mv2b p0 p1 e1 e2 e3
    · exact mv3b p0 p1 e1 e2 e3
end Go.Pv
