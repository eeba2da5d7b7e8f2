/- Plain laws: sameness of masters. -/
import Derived.Test.YtnbiheccdpbfiaaPlB
set_option linter.unusedSimpArgs false
set_option linter.unusedVariables false
namespace Go.Pv
theorem nodup_b {b : Bool} : cond b (some false) (some true) = some (!b) := by cases b <;> rfl
theorem deq_l {α : Type} [DecidableEq α] {l m : List α} (h : ¬ l.length = m.length) : decide (l = m) = false := by
  rw [decide_eq_false_iff_not]; intro e; exact h (by rw [e])
theorem seq_v {l m : List Int} (hl : l.length ≤ 20) (n : Nat) (hn : 30 ≤ n) : d_slices_Equal_int_int n l m = some (decide (l = m)) := by
  simp only [d_slices_Equal_int_int, bnd_v]
  by_cases h : l.length = m.length
  · have hz := zip_len h
    have := scan (N0 := 0) (l := l.zip m) (fun v => !decide (v.1 = v.2)) (fun _ => false) (d_slices_Equal_int_int_L0 l m) (by
      rintro n k ⟨u, v⟩ _ hv
      obtain ⟨ha, hb⟩ := zip_get hv
      simp only [d_slices_Equal_int_int_L0, bnd_v, lt_t ha, cnd_t, ix_nat, ha, hb, ob_s, nx (le_k ha (by omega : l.length ≤ 68719476736)), dne]) (by
      intro n; rw [hz]; simp only [d_slices_Equal_int_int_L0, bnd_v, lt_f, cnd_f]) n (by omega)
    rw [this, sel_c, any_not, zip_eq h]
    have e : decide ((l.length : Int) ≠ (m.length : Int)) = false := by rw [decide_eq_false_iff_not]; omega
    rw [e, cnd_f]; cases decide (l = m) <;> rfl
  · have e : decide ((l.length : Int) ≠ (m.length : Int)) = true := by rw [decide_eq_true_eq]; omega
    rw [e, cnd_t, deq_l h]
theorem rseq_v {l m : List Int} (hl : l.length ≤ 20) (n : Nat) (hn : 30 ≤ n) : d_ref04_SameInts n l m = some (decide (l = m)) := by
  simp only [d_ref04_SameInts, bnd_v]
  by_cases h : l.length = m.length
  · have hz := zip_len h
    have := scan (N0 := 0) (l := l.zip m) (fun v => !decide (v.1 = v.2)) (fun _ => false) (d_ref04_SameInts_L0 l m) (by
      rintro n k ⟨u, v⟩ _ hv
      obtain ⟨ha, hb⟩ := zip_get hv
      simp only [d_ref04_SameInts_L0, bnd_v, lt_t ha, cnd_t, ix_nat, ha, hb, ob_s, nx (le_k ha (by omega : l.length ≤ 68719476736)), dne]) (by
      intro n; rw [hz]; simp only [d_ref04_SameInts_L0, bnd_v, lt_f, cnd_f]) n (by omega)
    rw [this, sel_c, any_not, zip_eq h]
    have e : decide ((l.length : Int) ≠ (m.length : Int)) = false := by rw [decide_eq_false_iff_not]; omega
    rw [e, cnd_f]; cases decide (l = m) <;> rfl
  · have e : decide ((l.length : Int) ≠ (m.length : Int)) = true := by rw [decide_eq_true_eq]; omega
    rw [e, cnd_t, deq_l h]
theorem rsl_v {l m : List (List Int)} (hl : l.length ≤ 20) (hr : ∀ r ∈ l, r.length ≤ 20) (n : Nat) (hn : 100 ≤ n) : d_ref04_sameLists n l m = some (decide (l = m)) := by
  simp only [d_ref04_sameLists, bnd_v]
  by_cases h : l.length = m.length
  · have hz := zip_len h
    have := scan (N0 := 30) (l := l.zip m) (fun v => !decide (v.1 = v.2)) (fun _ => false) (d_ref04_sameLists_L0 l m) (by
      rintro n k ⟨u, v⟩ hn hv
      obtain ⟨ha, hb⟩ := zip_get hv
      simp only [d_ref04_sameLists_L0, bnd_v, lt_t ha, cnd_t, ix_nat, ha, hb, ob_s, nx (le_k ha (by omega : l.length ≤ 68719476736)), rseq_v (hr u (mem_get ha)) n hn]) (by
      intro n; rw [hz]; simp only [d_ref04_sameLists_L0, bnd_v, lt_f, cnd_f]) n (by omega)
    rw [this, sel_c, any_not, zip_eq h]
    have e : decide ((l.length : Int) ≠ (m.length : Int)) = false := by rw [decide_eq_false_iff_not]; omega
    rw [e, cnd_f]; cases decide (l = m) <;> rfl
  · have e : decide ((l.length : Int) ≠ (m.length : Int)) = true := by rw [decide_eq_true_eq]; omega
    rw [e, cnd_t, deq_l h]
theorem ms0 {x y : GMaster} (hx : Few x) (h : x.Methods.length = y.Methods.length) (n : Nat) (hn : 100 ≤ n) :
    (d_master_Same_L0 x y n 0).bind (sel fun (_ : Unit) => some true) = some (decide (x.Methods = y.Methods)) := by
  have hz := zip_len h
  have hl := hx.m
  have := scan (N0 := 30) (l := x.Methods.zip y.Methods) (fun v => !decide (v.1 = v.2)) (fun _ => false) (d_master_Same_L0 x y) (by
      rintro n k ⟨u, v⟩ hn hv
      obtain ⟨ha, hb⟩ := zip_get hv
      simp only [d_master_Same_L0, bnd_v, lt_t ha, cnd_t, ix_nat, ha, hb, ob_s, nx (le_k ha (by omega : x.Methods.length ≤ 68719476736)), seq_v (hx.mr u (mem_get ha)) n hn]) (by
      intro n; rw [hz]; simp only [d_master_Same_L0, bnd_v, lt_f, cnd_f]) n (by omega)
  rw [this, sel_c, any_not, zip_eq h, nodup_b, Bool.not_not]
theorem ms1 {x y : GMaster} (hx : Few x) (h : x.Costs.length = y.Costs.length) (n : Nat) (hn : 100 ≤ n) :
    (d_master_Same_L1 x y n 0).bind (sel fun (_ : Unit) => some true) = some (decide (x.Costs = y.Costs)) := by
  have hz := zip_len h
  have hl := hx.c
  have := scan (N0 := 30) (l := x.Costs.zip y.Costs) (fun v => !decide (v.1 = v.2)) (fun _ => false) (d_master_Same_L1 x y) (by
      rintro n k ⟨u, v⟩ hn hv
      obtain ⟨ha, hb⟩ := zip_get hv
      simp only [d_master_Same_L1, bnd_v, lt_t ha, cnd_t, ix_nat, ha, hb, ob_s, nx (le_k ha (by omega : x.Costs.length ≤ 68719476736)), seq_v (hx.cr u (mem_get ha)) n hn]) (by
      intro n; rw [hz]; simp only [d_master_Same_L1, bnd_v, lt_f, cnd_f]) n (by omega)
  rw [this, sel_c, any_not, zip_eq h, nodup_b, Bool.not_not]
theorem lenne {α : Type} [DecidableEq α] {l m : List α} {f : Unit → Option Bool} (hf : l.length = m.length → f () = some (decide (l = m))) :
    cond (decide ((l.length : Int) ≠ (m.length : Int))) (some false) (f ()) = some (decide (l = m)) := by
  by_cases h : l.length = m.length
  · have e : decide ((l.length : Int) ≠ (m.length : Int)) = false := by rw [decide_eq_false_iff_not]; omega
    rw [e, cnd_f, hf h]
  · have e : decide ((l.length : Int) ≠ (m.length : Int)) = true := by rw [decide_eq_true_eq]; omega
    rw [e, cnd_t, deq_l h]
def eqM (x y : GMaster) : Bool := decide (x.Entities = y.Entities) && (decide (x.Periods = y.Periods) && (decide (x.Weights = y.Weights) && (decide (x.Methods = y.Methods) && decide (x.Costs = y.Costs))))
theorem eqM_v {x y : GMaster} : eqM x y = decide (x = y) := by
  cases x; cases y; unfold eqM; rw [Bool.eq_iff_iff]; simp only [Bool.and_eq_true, decide_eq_true_eq, GMaster.mk.injEq]
theorem same_v {x y : GMaster} (hx : Few x) (n : Nat) (hn : 100 ≤ n) : d_master_Same n x y = some (decide (x = y)) := by
  rw [← eqM_v]; unfold eqM
  simp only [d_master_Same, bnd_v, seq_v hx.w n (by omega), ob_s]
  rw [lenne (f := fun _ => (d_master_Same_L0 x y n 0).bind (sel fun (_ : Unit) => some true)) (fun h => ms0 hx h n hn),
    lenne (f := fun _ => (d_master_Same_L1 x y n 0).bind (sel fun (_ : Unit) => some true)) (fun h => ms1 hx h n hn)]
  cases decide (x.Entities = y.Entities); · rfl
  cases decide (x.Periods = y.Periods); · rfl
  cases decide (x.Weights = y.Weights); · rfl
  cases decide (x.Methods = y.Methods) <;> rfl
theorem rsame_v {x y : GMaster} (hx : Few x) (n : Nat) (hn : 100 ≤ n) : d_ref04_Same n x y = some (decide (x = y)) := by
  rw [← eqM_v]; unfold eqM
  have h1 := hx.m; have h2 := hx.c
  simp only [d_ref04_Same, bnd_v, rseq_v hx.w n (by omega), rsl_v (m := y.Methods) (by omega) hx.mr n hn, rsl_v (m := y.Costs) (by omega) hx.cr n hn, ob_s]
  cases decide (x.Entities = y.Entities); · rfl
  cases decide (x.Periods = y.Periods); · rfl
  cases decide (x.Weights = y.Weights); · rfl
  cases decide (x.Methods = y.Methods) <;> rfl
end Go.Pv
