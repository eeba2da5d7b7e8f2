/- AdjustCounts: plain law. -/
import Derived.Test.YtppokdmifjmdfaaGreatS32
set_option linter.unusedSimpArgs false
set_option linter.unusedVariables false
namespace Go.Pv
open Go.Proofs
set_option maxRecDepth 100000
set_option maxHeartbeats 2000000
theorem auto17 {α : Type} {D : Option α} {r : α} (h : D = some r := by unfold d_law17_AdjustCounts; repeat (first | with_reducible exact v_end | ((with_reducible refine v_fin ?_); (exact rfl)) | ((with_reducible refine v_w ?_ ?_); · first | omega | decide | (dsimp only; omega) | (simp; done) | (simp; omega)) | ((with_reducible refine v_wu ?_ ?_); · first | omega | decide | (dsimp only; omega) | (simp; done) | (simp; omega)) | ((with_reducible refine v_T ?_ ?_); · first | omega | decide | (dsimp only; omega) | (simp; done) | (simp; omega) | (exact of_decide_eq_true rfl)) | ((with_reducible refine v_F ?_ ?_); · first | omega | decide | (dsimp only; omega) | (simp; done) | (simp; omega) | (exact of_decide_eq_true rfl)) | with_reducible refine v_nT ?_ | with_reducible refine v_nF ?_ | with_reducible refine v_cT ?_ | with_reducible refine v_cF ?_ | ((with_reducible refine v_as ?_ ?_); · first | omega | decide | (dsimp only; omega) | (simp; done) | (simp; omega) | (exact of_decide_eq_true rfl)) | ((with_reducible apply v_ix); (first | omega | decide | (simp; done) | (dsimp only [List.length_cons, List.length_nil]; omega)); (exact rfl)) | with_reducible refine v_p2 ?_ | with_reducible refine v_selb ?_ | with_reducible refine v_sele ?_ | with_reducible refine v_selrl ?_ | with_reducible refine v_selrr ?_ | ((with_reducible refine v_ifT ?_ ?_); · first | omega | decide | (dsimp only; omega)) | ((with_reducible refine v_ifF ?_ ?_); · first | omega | decide | (dsimp only; omega)) | with_reducible refine v_bi (by assumption) ?_ | with_reducible refine v_brk ?_ | with_reducible refine v_esc ?_ | dsimp only [List.nil_append, List.cons_append] | with_reducible apply v_bi | with_reducible refine v_bnd ?_)) : D = some r := h
theorem aw17 : d_law17_awake 80 = some true := by decide +kernel
theorem eq0 {a b d p : Int} (p0 : 0 ≤ p) (p1 : p < 100) (e1 : d_law00_Place a 4 = some 0) (e2 : d_law00_Place b 100 = some p) (e3 : d_law00_Place d 150 = some (1 + p)) : d_law17_AdjustCounts 80 a b d = some true := by
  have hS := st0_r (1 + p) (by omega) (by omega)
  have hR : d_stock_Ready (F1 [F4 [⟨(1 + p), 10 * (1 + p), 0⟩] 0, F4 [] 0, F4 [] 0, F4 [] 0, F4 [] 0, F4 [] 0, F4 [] 0, F4 [] 0] (10 * (1 + p)) (0) [F3 (10 * (1 + p)) (0), F3 0 0, F3 0 0, F3 0 0] (1 + p) 0) 0 0 = some 0 := rfl
  have hC := ce0_r (1 + p) (by omega) (by omega)
  have hA : d_ref14_At (F1 [F4 [⟨(1 + p), 10 * (1 + p), 0⟩] 0, F4 [] 0, F4 [] 0, F4 [] 0, F4 [] 0, F4 [] 0, F4 [] 0, F4 [] 0] (10 * (1 + p)) (0) [F3 (10 * (1 + p)) (0), F3 0 0, F3 0 0, F3 0 0] (1 + p) 0) 0 0 0 = some ⟨[⟨(1 + p), 10 * (1 + p), 0⟩], ⟨0, 0, 0⟩⟩ := rfl
  have hW := w0_r (1 + p) (1 + p) (10 * (1 + p)) 0 0 (by omega) (by omega)
  have hw := aw17
  exact auto17
theorem ze0 {a b d p : Int} (p0 : 0 ≤ p) (p1 : p < 100) (e1 : d_law00_Place a 4 = some 0) (e2 : d_law00_Place b 100 = some p) (e3 : d_law00_Place d 150 = some 0) : d_law17_AdjustCounts 80 a b d = some true := by
  have hS := st0_r (1 + p) (by omega) (by omega)
  have hR : d_stock_Ready (F1 [F4 [⟨(1 + p), 10 * (1 + p), 0⟩] 0, F4 [] 0, F4 [] 0, F4 [] 0, F4 [] 0, F4 [] 0, F4 [] 0, F4 [] 0] (10 * (1 + p)) (0) [F3 (10 * (1 + p)) (0), F3 0 0, F3 0 0, F3 0 0] (1 + p) 0) 0 0 = some 0 := rfl
  have hC := cz0_r (1 + p) (by omega) (by omega)
  have hA : d_ref14_At (F1 [F4 [] 0, F4 [] 0, F4 [] 0, F4 [] 0, F4 [] 0, F4 [] 0, F4 [] 0, F4 [] 0] (0) (10 * (1 + p)) [F3 (10 * (1 + p)) (10 * (1 + p)), F3 0 0, F3 0 0, F3 0 0] (1 + p) 0) 0 0 0 = some ⟨[], ⟨0, 0, 0⟩⟩ := rfl
  have hW : d_ref14_Worth 80 (F1 [F4 [] 0, F4 [] 0, F4 [] 0, F4 [] 0, F4 [] 0, F4 [] 0, F4 [] 0, F4 [] 0] (0) (10 * (1 + p)) [F3 (10 * (1 + p)) (10 * (1 + p)), F3 0 0, F3 0 0, F3 0 0] (1 + p) 0) 0 0 = some ⟨0, 0, 0⟩ := by kernel_rfl
  have hw := aw17
  exact auto17
theorem lt0 {a b d p c : Int} (p0 : 0 ≤ p) (p1 : p < 100) (c0 : 1 ≤ c) (c1 : c < (1 + p)) (e1 : d_law00_Place a 4 = some 0) (e2 : d_law00_Place b 100 = some p) (e3 : d_law00_Place d 150 = some c) : d_law17_AdjustCounts 80 a b d = some true := by
  have hS := st0_r (1 + p) (by omega) (by omega)
  have hR : d_stock_Ready (F1 [F4 [⟨(1 + p), 10 * (1 + p), 0⟩] 0, F4 [] 0, F4 [] 0, F4 [] 0, F4 [] 0, F4 [] 0, F4 [] 0, F4 [] 0] (10 * (1 + p)) (0) [F3 (10 * (1 + p)) (0), F3 0 0, F3 0 0, F3 0 0] (1 + p) 0) 0 0 = some 0 := rfl
  have hC := cl0_r (1 + p) c (by omega) (by omega) (by omega) (by omega)
  have hA : d_ref14_At (F1 [F4 [⟨c, 10 * c, 0⟩] 0, F4 [] 0, F4 [] 0, F4 [] 0, F4 [] 0, F4 [] 0, F4 [] 0, F4 [] 0] (10 * c) (10 * (1 + p) - 10 * c) [F3 (10 * (1 + p)) (10 * (1 + p) - 10 * c), F3 0 0, F3 0 0, F3 0 0] (1 + p) 0) 0 0 0 = some ⟨[⟨c, 10 * c, 0⟩], ⟨0, 0, 0⟩⟩ := rfl
  have hW := w0_r c (1 + p) (10 * c) (10 * (1 + p) - 10 * c) (10 * (1 + p) - 10 * c) (by omega) (by omega)
  have hw := aw17
  exact auto17
theorem gt0 {a b d p c : Int} (p0 : 0 ≤ p) (p1 : p < 100) (c0 : (1 + p) < c) (c1 : c < 150) (e1 : d_law00_Place a 4 = some 0) (e2 : d_law00_Place b 100 = some p) (e3 : d_law00_Place d 150 = some c) : d_law17_AdjustCounts 80 a b d = some true := by
  have hS := st0_r (1 + p) (by omega) (by omega)
  have hR : d_stock_Ready (F1 [F4 [⟨(1 + p), 10 * (1 + p), 0⟩] 0, F4 [] 0, F4 [] 0, F4 [] 0, F4 [] 0, F4 [] 0, F4 [] 0, F4 [] 0] (10 * (1 + p)) (0) [F3 (10 * (1 + p)) (0), F3 0 0, F3 0 0, F3 0 0] (1 + p) 0) 0 0 = some 0 := rfl
  have hC := cg0_r (1 + p) c (by omega) (by omega) (by omega) (by omega)
  have hA : d_ref14_At (F1 [F4 [⟨(1 + p), 10 * (1 + p), 0⟩, ⟨c - (1 + p), 10 * c - 10 * (1 + p), 0⟩] 0, F4 [] 0, F4 [] 0, F4 [] 0, F4 [] 0, F4 [] 0, F4 [] 0, F4 [] 0] (10 * c) (10 * (1 + p) - 10 * c) [F3 (10 * (1 + p)) (10 * (1 + p) - 10 * c), F3 0 0, F3 0 0, F3 0 0] (1 + p) 0) 0 0 0 = some ⟨[⟨(1 + p), 10 * (1 + p), 0⟩, ⟨c - (1 + p), 10 * c - 10 * (1 + p), 0⟩], ⟨0, 0, 0⟩⟩ := rfl
  have hW := v0_r (1 + p) c (10 * c) (10 * (1 + p) - 10 * c) (10 * (1 + p) - 10 * c) (by omega) (by omega) (by omega)
  have hw := aw17
  exact auto17
theorem eq1 {a b d p : Int} (p0 : 0 ≤ p) (p1 : p < 100) (e1 : d_law00_Place a 4 = some 1) (e2 : d_law00_Place b 100 = some p) (e3 : d_law00_Place d 150 = some (1 + p)) : d_law17_AdjustCounts 80 a b d = some true := by
  have hS := st1_r (1 + p) (by omega) (by omega)
  have hR : d_stock_Ready (F1 [F4 [] 0, F4 [] 0, F4 [⟨(1 + p), 10 * (1 + p), 0⟩] 0, F4 [] 0, F4 [] 0, F4 [] 0, F4 [] 0, F4 [] 0] (10 * (1 + p)) (0) [F3 0 0, F3 (10 * (1 + p)) (0), F3 0 0, F3 0 0] (1 + p) 1) 0 1 = some 0 := rfl
  have hC := ce1_r (1 + p) (by omega) (by omega)
  have hA : d_ref14_At (F1 [F4 [] 0, F4 [] 0, F4 [⟨(1 + p), 10 * (1 + p), 0⟩] 0, F4 [] 0, F4 [] 0, F4 [] 0, F4 [] 0, F4 [] 0] (10 * (1 + p)) (0) [F3 0 0, F3 (10 * (1 + p)) (0), F3 0 0, F3 0 0] (1 + p) 1) 0 1 0 = some ⟨[⟨(1 + p), 10 * (1 + p), 0⟩], ⟨0, 0, 0⟩⟩ := rfl
  have hW := w1_r (1 + p) (1 + p) (10 * (1 + p)) 0 0 (by omega) (by omega)
  have hw := aw17
  exact auto17
theorem ze1 {a b d p : Int} (p0 : 0 ≤ p) (p1 : p < 100) (e1 : d_law00_Place a 4 = some 1) (e2 : d_law00_Place b 100 = some p) (e3 : d_law00_Place d 150 = some 0) : d_law17_AdjustCounts 80 a b d = some true := by
  have hS := st1_r (1 + p) (by omega) (by omega)
  have hR : d_stock_Ready (F1 [F4 [] 0, F4 [] 0, F4 [⟨(1 + p), 10 * (1 + p), 0⟩] 0, F4 [] 0, F4 [] 0, F4 [] 0, F4 [] 0, F4 [] 0] (10 * (1 + p)) (0) [F3 0 0, F3 (10 * (1 + p)) (0), F3 0 0, F3 0 0] (1 + p) 1) 0 1 = some 0 := rfl
  have hC := cz1_r (1 + p) (by omega) (by omega)
  have hA : d_ref14_At (F1 [F4 [] 0, F4 [] 0, F4 [] 0, F4 [] 0, F4 [] 0, F4 [] 0, F4 [] 0, F4 [] 0] (0) (10 * (1 + p)) [F3 0 0, F3 (10 * (1 + p)) (10 * (1 + p)), F3 0 0, F3 0 0] (1 + p) 1) 0 1 0 = some ⟨[], ⟨0, 0, 0⟩⟩ := rfl
  have hW : d_ref14_Worth 80 (F1 [F4 [] 0, F4 [] 0, F4 [] 0, F4 [] 0, F4 [] 0, F4 [] 0, F4 [] 0, F4 [] 0] (0) (10 * (1 + p)) [F3 0 0, F3 (10 * (1 + p)) (10 * (1 + p)), F3 0 0, F3 0 0] (1 + p) 1) 0 1 = some ⟨0, 0, 0⟩ := by kernel_rfl
  have hw := aw17
  exact auto17
theorem lt1 {a b d p c : Int} (p0 : 0 ≤ p) (p1 : p < 100) (c0 : 1 ≤ c) (c1 : c < (1 + p)) (e1 : d_law00_Place a 4 = some 1) (e2 : d_law00_Place b 100 = some p) (e3 : d_law00_Place d 150 = some c) : d_law17_AdjustCounts 80 a b d = some true := by
  have hS := st1_r (1 + p) (by omega) (by omega)
  have hR : d_stock_Ready (F1 [F4 [] 0, F4 [] 0, F4 [⟨(1 + p), 10 * (1 + p), 0⟩] 0, F4 [] 0, F4 [] 0, F4 [] 0, F4 [] 0, F4 [] 0] (10 * (1 + p)) (0) [F3 0 0, F3 (10 * (1 + p)) (0), F3 0 0, F3 0 0] (1 + p) 1) 0 1 = some 0 := rfl
  have hC := cl1_r (1 + p) c (by omega) (by omega) (by omega) (by omega)
  have hA : d_ref14_At (F1 [F4 [] 0, F4 [] 0, F4 [⟨c, 10 * c, 0⟩] 0, F4 [] 0, F4 [] 0, F4 [] 0, F4 [] 0, F4 [] 0] (10 * c) (10 * (1 + p) - 10 * c) [F3 0 0, F3 (10 * (1 + p)) (10 * (1 + p) - 10 * c), F3 0 0, F3 0 0] (1 + p) 1) 0 1 0 = some ⟨[⟨c, 10 * c, 0⟩], ⟨0, 0, 0⟩⟩ := rfl
  have hW := w1_r c (1 + p) (10 * c) (10 * (1 + p) - 10 * c) (10 * (1 + p) - 10 * c) (by omega) (by omega)
  have hw := aw17
  exact auto17
theorem gt1 {a b d p c : Int} (p0 : 0 ≤ p) (p1 : p < 100) (c0 : (1 + p) < c) (c1 : c < 150) (e1 : d_law00_Place a 4 = some 1) (e2 : d_law00_Place b 100 = some p) (e3 : d_law00_Place d 150 = some c) : d_law17_AdjustCounts 80 a b d = some true := by
  have hS := st1_r (1 + p) (by omega) (by omega)
  have hR : d_stock_Ready (F1 [F4 [] 0, F4 [] 0, F4 [⟨(1 + p), 10 * (1 + p), 0⟩] 0, F4 [] 0, F4 [] 0, F4 [] 0, F4 [] 0, F4 [] 0] (10 * (1 + p)) (0) [F3 0 0, F3 (10 * (1 + p)) (0), F3 0 0, F3 0 0] (1 + p) 1) 0 1 = some 0 := rfl
  have hC := cg1_r (1 + p) c (by omega) (by omega) (by omega) (by omega)
  have hA : d_ref14_At (F1 [F4 [] 0, F4 [] 0, F4 [⟨c, 10 * c, 0⟩] 0, F4 [] 0, F4 [] 0, F4 [] 0, F4 [] 0, F4 [] 0] (10 * c) (10 * (1 + p) - 10 * c) [F3 0 0, F3 (10 * (1 + p)) (10 * (1 + p) - 10 * c), F3 0 0, F3 0 0] (1 + p) 1) 0 1 0 = some ⟨[⟨c, 10 * c, 0⟩], ⟨0, 0, 0⟩⟩ := rfl
  have hW := w1_r c (1 + p) (10 * c) (10 * (1 + p) - 10 * c) (10 * (1 + p) - 10 * c) (by omega) (by omega)
  have hw := aw17
  exact auto17
theorem eq2 {a b d p : Int} (p0 : 0 ≤ p) (p1 : p < 100) (e1 : d_law00_Place a 4 = some 2) (e2 : d_law00_Place b 100 = some p) (e3 : d_law00_Place d 150 = some (1 + p)) : d_law17_AdjustCounts 80 a b d = some true := by
  have hS := st2_r (1 + p) (by omega) (by omega)
  have hR : d_stock_Ready (F1 [F4 [] 0, F4 [] 0, F4 [] 0, F4 [] 0, F4 [⟨(1 + p), 10 * (1 + p), 0⟩] 0, F4 [] 0, F4 [] 0, F4 [] 0] (10 * (1 + p)) (0) [F3 0 0, F3 0 0, F3 (10 * (1 + p)) (0), F3 0 0] (1 + p) 2) 0 2 = some 0 := rfl
  have hC := ce2_r (1 + p) (by omega) (by omega)
  have hA : d_ref14_At (F1 [F4 [] 0, F4 [] 0, F4 [] 0, F4 [] 0, F4 [⟨(1 + p), 10 * (1 + p), 0⟩] 0, F4 [] 0, F4 [] 0, F4 [] 0] (10 * (1 + p)) (0) [F3 0 0, F3 0 0, F3 (10 * (1 + p)) (0), F3 0 0] (1 + p) 2) 0 2 0 = some ⟨[⟨(1 + p), 10 * (1 + p), 0⟩], ⟨0, 0, 0⟩⟩ := rfl
  have hW := w2_r (1 + p) (1 + p) (10 * (1 + p)) 0 0 (by omega) (by omega)
  have hw := aw17
  exact auto17
theorem lt2 {a b d p c : Int} (p0 : 0 ≤ p) (p1 : p < 100) (c0 : 0 ≤ c) (c1 : c < (1 + p)) (e1 : d_law00_Place a 4 = some 2) (e2 : d_law00_Place b 100 = some p) (e3 : d_law00_Place d 150 = some c) : d_law17_AdjustCounts 80 a b d = some true := by
  have hS := st2_r (1 + p) (by omega) (by omega)
  have hR : d_stock_Ready (F1 [F4 [] 0, F4 [] 0, F4 [] 0, F4 [] 0, F4 [⟨(1 + p), 10 * (1 + p), 0⟩] 0, F4 [] 0, F4 [] 0, F4 [] 0] (10 * (1 + p)) (0) [F3 0 0, F3 0 0, F3 (10 * (1 + p)) (0), F3 0 0] (1 + p) 2) 0 2 = some 0 := rfl
  have hC := cl2_r (1 + p) c (by omega) (by omega) (by omega) (by omega)
  have hA : d_ref14_At (F1 [F4 [] 0, F4 [] 0, F4 [] 0, F4 [] 0, F4 [⟨(1 + p), 10 * (1 + p), 0⟩] ((1 + p) - c), F4 [] 0, F4 [] 0, F4 [] 0] (10 * (1 + p)) (0) [F3 0 0, F3 0 0, F3 (10 * (1 + p)) (0), F3 0 0] (1 + p) 2) 0 2 0 = some ⟨[⟨(1 + p), 10 * (1 + p), 0⟩], ⟨0, 0, (1 + p) - c⟩⟩ := rfl
  have hw := aw17
  exact auto17
theorem gt2 {a b d p c : Int} (p0 : 0 ≤ p) (p1 : p < 100) (c0 : (1 + p) < c) (c1 : c < 150) (e1 : d_law00_Place a 4 = some 2) (e2 : d_law00_Place b 100 = some p) (e3 : d_law00_Place d 150 = some c) : d_law17_AdjustCounts 80 a b d = some true := by
  have hS := st2_r (1 + p) (by omega) (by omega)
  have hR : d_stock_Ready (F1 [F4 [] 0, F4 [] 0, F4 [] 0, F4 [] 0, F4 [⟨(1 + p), 10 * (1 + p), 0⟩] 0, F4 [] 0, F4 [] 0, F4 [] 0] (10 * (1 + p)) (0) [F3 0 0, F3 0 0, F3 (10 * (1 + p)) (0), F3 0 0] (1 + p) 2) 0 2 = some 0 := rfl
  have hC := cg2_r (1 + p) c (by omega) (by omega) (by omega) (by omega)
  have hA : d_ref14_At (F1 [F4 [] 0, F4 [] 0, F4 [] 0, F4 [] 0, F4 [⟨c, 10 * c, 0⟩] 0, F4 [] 0, F4 [] 0, F4 [] 0] (10 * c) (10 * (1 + p) - 10 * c) [F3 0 0, F3 0 0, F3 (10 * (1 + p)) (10 * (1 + p) - 10 * c), F3 0 0] (1 + p) 2) 0 2 0 = some ⟨[⟨c, 10 * c, 0⟩], ⟨0, 0, 0⟩⟩ := rfl
  have hW := w2_r c (1 + p) (10 * c) (10 * (1 + p) - 10 * c) (10 * (1 + p) - 10 * c) (by omega) (by omega)
  have hw := aw17
  exact auto17
theorem eq3 {a b d p : Int} (p0 : 0 ≤ p) (p1 : p < 100) (e1 : d_law00_Place a 4 = some 3) (e2 : d_law00_Place b 100 = some p) (e3 : d_law00_Place d 150 = some (1 + p)) : d_law17_AdjustCounts 80 a b d = some true := by
  have hS := st3_r (1 + p) (by omega) (by omega)
  have hR : d_stock_Ready (F1 [F4 [] 0, F4 [] 0, F4 [] 0, F4 [] 0, F4 [] 0, F4 [] 0, F4 [⟨(1 + p), 10 * (1 + p), 0⟩] 0, F4 [] 0] (10 * (1 + p)) (0) [F3 0 0, F3 0 0, F3 0 0, F3 (10 * (1 + p)) (0)] (1 + p) 3) 0 3 = some 0 := rfl
  have hC := ce3_r (1 + p) (by omega) (by omega)
  have hA : d_ref14_At (F1 [F4 [] 0, F4 [] 0, F4 [] 0, F4 [] 0, F4 [] 0, F4 [] 0, F4 [⟨(1 + p), 10 * (1 + p), 0⟩] 0, F4 [] 0] (10 * (1 + p)) (0) [F3 0 0, F3 0 0, F3 0 0, F3 (10 * (1 + p)) (0)] (1 + p) 3) 0 3 0 = some ⟨[⟨(1 + p), 10 * (1 + p), 0⟩], ⟨0, 0, 0⟩⟩ := rfl
  have hW := w3_r (1 + p) (1 + p) (10 * (1 + p)) 0 0 (by omega) (by omega)
  have hw := aw17
  exact auto17
theorem ze3 {a b d p : Int} (p0 : 0 ≤ p) (p1 : p < 100) (e1 : d_law00_Place a 4 = some 3) (e2 : d_law00_Place b 100 = some p) (e3 : d_law00_Place d 150 = some 0) : d_law17_AdjustCounts 80 a b d = some true := by
  have hS := st3_r (1 + p) (by omega) (by omega)
  have hR : d_stock_Ready (F1 [F4 [] 0, F4 [] 0, F4 [] 0, F4 [] 0, F4 [] 0, F4 [] 0, F4 [⟨(1 + p), 10 * (1 + p), 0⟩] 0, F4 [] 0] (10 * (1 + p)) (0) [F3 0 0, F3 0 0, F3 0 0, F3 (10 * (1 + p)) (0)] (1 + p) 3) 0 3 = some 0 := rfl
  have hC := cz3_r (1 + p) (by omega) (by omega)
  have hA : d_ref14_At (F1 [F4 [] 0, F4 [] 0, F4 [] 0, F4 [] 0, F4 [] 0, F4 [] 0, F4 [] 0, F4 [] 0] (0) (10 * (1 + p)) [F3 0 0, F3 0 0, F3 0 0, F3 (10 * (1 + p)) (10 * (1 + p))] (1 + p) 3) 0 3 0 = some ⟨[], ⟨0, 0, 0⟩⟩ := rfl
  have hW : d_ref14_Worth 80 (F1 [F4 [] 0, F4 [] 0, F4 [] 0, F4 [] 0, F4 [] 0, F4 [] 0, F4 [] 0, F4 [] 0] (0) (10 * (1 + p)) [F3 0 0, F3 0 0, F3 0 0, F3 (10 * (1 + p)) (10 * (1 + p))] (1 + p) 3) 0 3 = some ⟨0, 0, 0⟩ := by kernel_rfl
  have hw := aw17
  exact auto17
theorem lt3 {a b d p c : Int} (p0 : 0 ≤ p) (p1 : p < 100) (c0 : 1 ≤ c) (c1 : c < (1 + p)) (e1 : d_law00_Place a 4 = some 3) (e2 : d_law00_Place b 100 = some p) (e3 : d_law00_Place d 150 = some c) : d_law17_AdjustCounts 80 a b d = some true := by
  have hS := st3_r (1 + p) (by omega) (by omega)
  have hR : d_stock_Ready (F1 [F4 [] 0, F4 [] 0, F4 [] 0, F4 [] 0, F4 [] 0, F4 [] 0, F4 [⟨(1 + p), 10 * (1 + p), 0⟩] 0, F4 [] 0] (10 * (1 + p)) (0) [F3 0 0, F3 0 0, F3 0 0, F3 (10 * (1 + p)) (0)] (1 + p) 3) 0 3 = some 0 := rfl
  have hC := cl3_r (1 + p) c (by omega) (by omega) (by omega) (by omega)
  have hA : d_ref14_At (F1 [F4 [] 0, F4 [] 0, F4 [] 0, F4 [] 0, F4 [] 0, F4 [] 0, F4 [⟨c, 10 * c, 0⟩] 0, F4 [] 0] (10 * c) (10 * (1 + p) - 10 * c) [F3 0 0, F3 0 0, F3 0 0, F3 (10 * (1 + p)) (10 * (1 + p) - 10 * c)] (1 + p) 3) 0 3 0 = some ⟨[⟨c, 10 * c, 0⟩], ⟨0, 0, 0⟩⟩ := rfl
  have hW := w3_r c (1 + p) (10 * c) (10 * (1 + p) - 10 * c) (10 * (1 + p) - 10 * c) (by omega) (by omega)
  have hw := aw17
  exact auto17
theorem gt3 {a b d p c : Int} (p0 : 0 ≤ p) (p1 : p < 100) (c0 : (1 + p) < c) (c1 : c < 150) (e1 : d_law00_Place a 4 = some 3) (e2 : d_law00_Place b 100 = some p) (e3 : d_law00_Place d 150 = some c) : d_law17_AdjustCounts 80 a b d = some true := by
  have hS := st3_r (1 + p) (by omega) (by omega)
  have hR : d_stock_Ready (F1 [F4 [] 0, F4 [] 0, F4 [] 0, F4 [] 0, F4 [] 0, F4 [] 0, F4 [⟨(1 + p), 10 * (1 + p), 0⟩] 0, F4 [] 0] (10 * (1 + p)) (0) [F3 0 0, F3 0 0, F3 0 0, F3 (10 * (1 + p)) (0)] (1 + p) 3) 0 3 = some 0 := rfl
  have hC := cg3_r (1 + p) c (by omega) (by omega) (by omega) (by omega)
  have hA : d_ref14_At (F1 [F4 [] 0, F4 [] 0, F4 [] 0, F4 [] 0, F4 [] 0, F4 [] 0, F4 [⟨c, 10 * c, 0⟩] 0, F4 [] 0] (10 * c) (10 * (1 + p) - 10 * c) [F3 0 0, F3 0 0, F3 0 0, F3 (10 * (1 + p)) (10 * (1 + p) - 10 * c)] (1 + p) 3) 0 3 0 = some ⟨[⟨c, 10 * c, 0⟩], ⟨0, 0, 0⟩⟩ := rfl
  have hW := w3_r c (1 + p) (10 * c) (10 * (1 + p) - 10 * c) (10 * (1 + p) - 10 * c) (by omega) (by omega)
  have hw := aw17
  exact auto17
theorem adjustCounts_plain {a b d : Int} (ha : -9223372036854775808 ≤ a ∧ a ≤ 9223372036854775807) (hb : -9223372036854775808 ≤ b ∧ b ≤ 9223372036854775807) (hc : -9223372036854775808 ≤ d ∧ d ≤ 9223372036854775807) : d_law17_AdjustCounts 80 a b d = some true := by
  obtain ⟨i, e1, i0, i1⟩ := place_e (n := 4) (by decide) ha
  obtain ⟨p, e2, p0, p1⟩ := place_e (n := 100) (by decide) hb
  obtain ⟨c, e3, c0, c1⟩ := place_e (n := 150) (by decide) hc
  have hi : i = 0 ∨ i = 1 ∨ i = 2 ∨ i = 3 := by omega
  have h : c = 1 + p ∨ c = 0 ∨ (1 ≤ c ∧ c < 1 + p) ∨ 1 + p < c := by omega
  rcases h with h | h | h | h
  · subst h
    rcases hi with rfl | rfl | rfl | rfl
    · exact eq0 p0 p1 e1 e2 e3
    · exact eq1 p0 p1 e1 e2 e3
    · exact eq2 p0 p1 e1 e2 e3
    · exact eq3 p0 p1 e1 e2 e3
  · subst h
    rcases hi with rfl | rfl | rfl | rfl
    · exact ze0 p0 p1 e1 e2 e3
    · exact ze1 p0 p1 e1 e2 e3
    · exact lt2 p0 p1 (Int.le_refl 0) (by omega) e1 e2 e3
    · exact ze3 p0 p1 e1 e2 e3
  · rcases hi with rfl | rfl | rfl | rfl
    · exact lt0 p0 p1 h.1 h.2 e1 e2 e3
    · exact lt1 p0 p1 h.1 h.2 e1 e2 e3
    · exact lt2 p0 p1 (by omega) h.2 e1 e2 e3
    · exact lt3 p0 p1 h.1 h.2 e1 e2 e3
  · rcases hi with rfl | rfl | rfl | rfl
    · exact gt0 p0 p1 h c1 e1 e2 e3
    · exact gt1 p0 p1 h c1 e1 e2 e3
    · exact gt2 p0 p1 h c1 e1 e2 e3
    · exact gt3 p0 p1 h c1 e1 e2 e3
end Go.Pv
