/- Plain laws: a master's bytes. -/
import Derived.Test.YtnbiheccdpbfiaaPlC
set_option linter.unusedSimpArgs false
set_option linter.unusedVariables false
namespace Go.Pv
theorem goodM_e {m : GMaster} (h : goodM m = true) : (1 ≤ m.Entities ∧ m.Entities ≤ 4) ∧ (1 ≤ m.Periods ∧ m.Periods ≤ 12) ∧ (1 ≤ m.Weights.length ∧ m.Weights.length ≤ 5) ∧ (∀ v ∈ m.Weights, 0 ≤ v ∧ v ≤ 1073741824) ∧
    ((m.Methods.length : Int) = m.Entities ∧ ∀ r ∈ m.Methods, r.length = m.Weights.length ∧ ∀ v ∈ r, 1 ≤ v ∧ v ≤ 4) ∧ ((m.Costs.length : Int) = m.Entities ∧ ∀ r ∈ m.Costs, r.length = m.Weights.length ∧ ∀ v ∈ r, 0 ≤ v ∧ v ≤ 1073741824) := by
  unfold goodM rowOk at h
  simp only [Bool.and_eq_true, inR_t, List.all_eq_true, decide_eq_true_eq] at h
  obtain ⟨h1, h2, h3, h4, ⟨h5, h6⟩, h7, h8⟩ := h
  refine ⟨h1, h2, ⟨by omega, by omega⟩, h4, ⟨h5, fun r hr => ⟨?_, (h6 r hr).2⟩⟩, h7, fun r hr => ⟨?_, (h8 r hr).2⟩⟩
  · have := (h6 r hr).1; omega
  · have := (h8 r hr).1; omega
theorem numD_v {v : Int} (h : -9223372036854775808 ≤ v ∧ v ≤ 9223372036854775807) : numD v = some (enc v) := asrt_t h
theorem numRD_v {v : Int} (h : -9223372036854775808 ≤ v ∧ v ≤ 9223372036854775807) : numRD v = some (enc v) := asrt_t h
theorem listD_v {l : List Int} (h : ∀ v ∈ l, -9223372036854775808 ≤ v ∧ v ≤ 9223372036854775807) (hl : l.length ≤ 68719476736) : listD l = some (encL l) := asrt_t ⟨h, hl⟩
theorem foldl_app {α : Type} {f : α → List UInt8} : ∀ (l : List α) (s : List UInt8), l.foldl (fun s v => s ++ f v) s = s ++ l.flatMap f
  | [], s => by simp
  | x :: l, s => by rw [List.foldl_cons, foldl_app l]; simp
theorem rlist_v {l : List Int} (h : ∀ v ∈ l, -9223372036854775808 ≤ v ∧ v ≤ 9223372036854775807) (hl : l.length ≤ 20) (n : Nat) (hn : 30 ≤ n) : d_ref03_List n l = some (encL l) := by
  have := fold (N0 := 0) (l := l) (fun s v => s ++ enc v) (fun k s => s.length ≤ 11 * k + 11) (fun n y s => d_ref03_List_L0 l n s y) some (by
    intro n k v s _ hv hI
    have hv' := h v (mem_get hv)
    have he := enc_len v
    have hk := lt_k hv
    refine ⟨?_, by rw [List.length_append]; omega⟩
    simp only [d_ref03_List_L0, bnd_v, lt_t hv, cnd_t, ix_nat, hv, ob_s, numRD_v hv', nx (le_k hv (by omega : l.length ≤ 68719476736))]
    rw [asrt_t (by omega)]) (by intro n s _; simp only [d_ref03_List_L0, bnd_v, lt_f, cnd_f]) l.length 0 n (enc (l.length : Int)) (by omega) (by omega) (enc_len _)
  simp only [d_ref03_List, numRD_v (v := (l.length : Int)) ⟨by omega, by omega⟩, ob_s]
  have h2 := this.1
  rw [List.drop_zero, foldl_app] at h2
  rw [show d_ref03_List_L0 l n (enc (l.length : Int)) 0 = some (enc (l.length : Int) ++ l.flatMap enc) from h2]; rfl
def bytesM (m : GMaster) : List UInt8 := cond (goodM m) (enc m.Entities ++ enc m.Periods ++ encL m.Weights ++ m.Methods.flatMap encL ++ m.Costs.flatMap encL) []
theorem conc_v {a b : List (List Int)} (ha : a.length ≤ 100) (hb : b.length ≤ 100) (n : Nat) (hn : 5 ≤ n) : d_slices_Concat_int_int n [a, b] = some (a ++ b) := by
  obtain ⟨k, rfl⟩ : ∃ k, n = k + 3 := ⟨n - 3, by omega⟩
  have e1 : w64 (0 + (a.length : Int)) = (a.length : Int) := by rw [w64_v (by omega)]; omega
  have e2 : w64 ((a.length : Int) + (b.length : Int)) = ((a.length + b.length : Nat) : Int) := by rw [w64_v (by omega)]; omega
  have e3 : decide ((a.length : Int) < 0) = false := by rw [decide_eq_false_iff_not]; omega
  have e4 : decide (((a.length + b.length : Nat) : Int) < 0) = false := by rw [decide_eq_false_iff_not]; omega
  have i0 : ix [a, b] 0 = some a := rfl
  have i1 : ix [a, b] (w64 (0 + 1)) = some b := rfl
  have d0 : decide ((0 : Int) < ([a, b].length : Int)) = true := rfl
  have d1 : decide (w64 ((0 : Int) + 1) < ([a, b].length : Int)) = true := rfl
  have d2 : decide (w64 (w64 ((0 : Int) + 1) + 1) < ([a, b].length : Int)) = false := rfl
  have la : (([] : List (List Int)) ++ a).length ≤ 68719476736 := by rw [List.nil_append]; omega
  have lb : (([] : List (List Int)) ++ a ++ b).length ≤ 68719476736 := by rw [List.nil_append, List.length_append]; omega
  simp only [d_slices_Concat_int_int, d_slices_Concat_int_int_L0, d_slices_Concat_int_int_L1, bnd_v, d0, d1, d2, cnd_t, cnd_f, i0, i1, ob_s, e1, e2, e3, e4, asrt_t la, asrt_t lb]
  rw [asrt_t (by omega)]; rfl
theorem bytes_v {m : GMaster} (hm : Few m) (n : Nat) (hn : 100 ≤ n) : d_master_Bytes n m = some (bytesM m) := by
  simp only [d_master_Bytes, check_v hm n (by omega), ob_s, bnd_v]
  unfold bytesM
  cases hg : goodM m with
  | false => rfl
  | true =>
    obtain ⟨h1, h2, h3, h4, ⟨h5, h6⟩, h7, h8⟩ := goodM_e hg
    have w := hm.w; have mm := hm.m; have cc := hm.c
    have l1 := enc_len m.Entities
    have l2 := enc_len m.Periods
    have l3 := encL_len m.Weights
    have hrow : ∀ r ∈ m.Methods ++ m.Costs, r.length ≤ 5 ∧ ∀ v ∈ r, -9223372036854775808 ≤ v ∧ v ≤ 9223372036854775807 := by
      intro r hr
      rcases List.mem_append.1 hr with hr | hr
      · exact ⟨by have := (h6 r hr).1; omega, fun v hv => by have := (h6 r hr).2 v hv; omega⟩
      · exact ⟨by have := (h8 r hr).1; omega, fun v hv => by have := (h8 r hr).2 v hv; omega⟩
    simp only [Bool.not_true, cnd_f, cnd_t, numD_v (v := m.Entities) ⟨by omega, by omega⟩, numD_v (v := m.Periods) ⟨by omega, by omega⟩, ob_s, listD_v (l := m.Weights) (fun v hv => by have := h4 v hv; omega) (by omega), conc_v (a := m.Methods) (b := m.Costs) (by omega) (by omega) n (by omega)]
    have hl : (m.Methods ++ m.Costs).length ≤ 20 := by rw [List.length_append]; omega
    have key := fold (N0 := 30) (l := m.Methods ++ m.Costs) (fun s v => s ++ encL v) (fun k s => s.length ≤ 66 * k + 300 ∧ s ≠ []) (fun n y s => d_master_Bytes_L0 (m.Methods ++ m.Costs) n y s) some (by
      intro n k v s _ hv hI
      have hv' := hrow v (mem_get hv)
      have he := encL_len v
      have hk := lt_k hv
      refine ⟨?_, by rw [List.length_append]; omega, fun h => hI.2 (List.append_eq_nil_iff.1 h).1⟩
      simp only [d_master_Bytes_L0, bnd_v, lt_t hv, cnd_t, ix_nat, hv, ob_s, listD_v hv'.2 (by omega), nx (le_k hv (by omega : (m.Methods ++ m.Costs).length ≤ 68719476736))]
      rw [asrt_t (by omega), asrt_t (by omega)]) (by intro n s _; simp only [d_master_Bytes_L0, bnd_v, lt_f, cnd_f]) (m.Methods ++ m.Costs).length 0 n (enc m.Entities ++ enc m.Periods ++ encL m.Weights) (by omega) (by omega) ⟨by simp only [List.length_append]; omega, fun h => encL_ne _ (List.append_eq_nil_iff.1 h).2⟩
    obtain ⟨k1, k2, k3⟩ := key
    rw [List.drop_zero] at k1 k2 k3
    rw [asrt_t (by omega), asrt_t (by rw [List.length_append]; omega), asrt_t (by simp only [List.length_append]; omega)]
    rw [show d_master_Bytes_L0 (m.Methods ++ m.Costs) n 0 (enc m.Entities ++ enc m.Periods ++ encL m.Weights) = _ from k1, ob_s, asrt_t k3, asrt_t (by omega), foldl_app, List.flatMap_append, List.append_assoc (_ ++ encL m.Weights)]
theorem rbytes_v {m : GMaster} (hm : Few m) (n : Nat) (hn : 100 ≤ n) : d_ref04_Bytes n m = some (bytesM m) := by
  simp only [d_ref04_Bytes, rcheck_v hm n (by omega), ob_s, bnd_v]
  unfold bytesM
  cases hg : goodM m with
  | false => rfl
  | true =>
    obtain ⟨h1, h2, h3, h4, ⟨h5, h6⟩, h7, h8⟩ := goodM_e hg
    have w := hm.w; have mm := hm.m; have cc := hm.c
    have l1 := enc_len m.Entities
    have l2 := enc_len m.Periods
    have l3 := encL_len m.Weights
    simp only [Bool.not_true, cnd_f, cnd_t, numRD_v (v := m.Entities) ⟨by omega, by omega⟩, numRD_v (v := m.Periods) ⟨by omega, by omega⟩, ob_s, rlist_v (l := m.Weights) (fun v hv => by have := h4 v hv; omega) (by omega) n (by omega)]
    have k1 := fold (N0 := 30) (l := m.Methods) (fun s v => s ++ encL v) (fun k s => s.length ≤ 66 * k + 300) (fun n y s => d_ref04_Bytes_L0 m n s y) some (by
      intro n k v s _ hv hI
      have hv1 := (h6 v (mem_get hv)).1
      have hv' : ∀ x ∈ v, -9223372036854775808 ≤ x ∧ x ≤ 9223372036854775807 := fun x hx => by have := (h6 v (mem_get hv)).2 x hx; omega
      have he := encL_len v
      have hk := lt_k hv
      have hd : decide ((k : Int) < m.Entities) = true := by rw [← h5]; exact lt_t hv
      refine ⟨?_, by rw [List.length_append]; omega⟩
      simp only [d_ref04_Bytes_L0, bnd_v, hd, cnd_t, ix_nat, hv, ob_s, rlist_v hv' (by omega) n (by omega), nx (le_k hv (by omega : m.Methods.length ≤ 68719476736))]
      rw [asrt_t (by omega)]) (by intro n s _; rw [h5]; have : decide (m.Entities < m.Entities) = false := by rw [decide_eq_false_iff_not]; omega
                                  simp only [d_ref04_Bytes_L0, bnd_v, this, cnd_f]) m.Methods.length 0 n (enc m.Entities ++ enc m.Periods ++ encL m.Weights) (by omega) (by omega) (by simp only [List.length_append]; omega)
    rw [List.drop_zero, foldl_app] at k1
    have k2 := fold (N0 := 30) (l := m.Costs) (fun s v => s ++ encL v) (fun k s => s.length ≤ 66 * k + 1000) (fun n y s => d_ref04_Bytes_L1 m n s y) some (by
      intro n k v s _ hv hI
      have hv1 := (h8 v (mem_get hv)).1
      have hv' : ∀ x ∈ v, -9223372036854775808 ≤ x ∧ x ≤ 9223372036854775807 := fun x hx => by have := (h8 v (mem_get hv)).2 x hx; omega
      have he := encL_len v
      have hk := lt_k hv
      have hd : decide ((k : Int) < m.Entities) = true := by rw [← h7]; exact lt_t hv
      refine ⟨?_, by rw [List.length_append]; omega⟩
      simp only [d_ref04_Bytes_L1, bnd_v, hd, cnd_t, ix_nat, hv, ob_s, rlist_v hv' (by omega) n (by omega), nx (le_k hv (by omega : m.Costs.length ≤ 68719476736))]
      rw [asrt_t (by omega)]) (by intro n s _; rw [h7]; have : decide (m.Entities < m.Entities) = false := by rw [decide_eq_false_iff_not]; omega
                                  simp only [d_ref04_Bytes_L1, bnd_v, this, cnd_f]) m.Costs.length 0 n (enc m.Entities ++ enc m.Periods ++ encL m.Weights ++ m.Methods.flatMap encL) (by omega) (by omega) (by have := k1.2; omega)
    rw [List.drop_zero, foldl_app] at k2
    rw [asrt_t (by omega), asrt_t (by rw [List.length_append]; omega)]
    rw [show d_ref04_Bytes_L0 m n (enc m.Entities ++ enc m.Periods ++ encL m.Weights) 0 = _ from k1.1, ob_s, show d_ref04_Bytes_L1 m n (enc m.Entities ++ enc m.Periods ++ encL m.Weights ++ m.Methods.flatMap encL) 0 = _ from k2.1, ob_s]
end Go.Pv
