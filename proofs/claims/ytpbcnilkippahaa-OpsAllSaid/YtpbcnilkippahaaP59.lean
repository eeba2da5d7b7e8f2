/- ops: the references of an operation. -/
import Derived.Test.YtpbcnilkippahaaP58
set_option linter.unusedSimpArgs false
set_option linter.unusedVariables false
namespace Go.Pv
set_option maxRecDepth 100000
def goR : List Int → List Int → Bool
  | _, [] => true
  | s, v :: r => decide (0 ≤ v) && (decide (v < 40) && (!decide (v ∈ s) && goR (s ++ [v]) r))
def okR (l : List Int) : Bool := goR [] l && decide (0 < l.length)
structure Rel (s : List Int) (sn : List Bool) : Prop where
  len : sn.length = 40
  at_ : ∀ j : Nat, j < 40 → sn[j]? = some (decide ((j : Int) ∈ s))
  cnt : sn.count true = s.length
theorem rel0 : Rel [] (List.replicate 40 false) := ⟨by simp, fun j hj => by rw [List.getElem?_replicate, if_pos hj]; simp, by decide⟩
theorem rel_at {s : List Int} {sn : List Bool} {v : Int} (h : Rel s sn) (h0 : 0 ≤ v) (h1 : v < 40) : sn[v.toNat]? = some (decide (v ∈ s)) := by
  have := h.at_ v.toNat (by omega)
  rwa [Int.toNat_of_nonneg h0] at this
theorem rel_step {s : List Int} {sn : List Bool} {v : Int} (h : Rel s sn) (h0 : 0 ≤ v) (h1 : v < 40) (h2 : v ∉ s) : Rel (s ++ [v]) (sn.set v.toNat true) := by
  have hl := h.len
  refine ⟨by rw [List.length_set]; exact hl, fun j hj => ?_, ?_⟩
  · rw [List.getElem?_set]
    by_cases he : v.toNat = j
    · rw [if_pos he, if_pos (by omega)]
      have : (j : Int) = v := by omega
      simp [this]
    · rw [if_neg he, h.at_ j hj]
      have : (j : Int) ≠ v := by omega
      simp [this]
  · have hi : v.toNat < sn.length := by omega
    have hv := rel_at h h0 h1
    rw [List.getElem?_eq_getElem hi] at hv
    have hv : sn[v.toNat] = false := by
      have := Option.some.inj hv; rw [this]; exact decide_eq_false h2
    rw [List.count_set hi, hv, List.length_append, h.cnt]; rfl
theorem pig : ∀ (r s : List Int) (sn : List Bool), Rel s sn → goR s r = true → s.length + r.length ≤ 40
  | [], s, sn, h, _ => by
    have := List.count_le_length (a := true) (l := sn)
    rw [h.cnt, h.len] at this; simpa using this
  | v :: r, s, sn, h, hg => by
    simp only [goR, Bool.and_eq_true, decide_eq_true_eq, Bool.not_eq_true', decide_eq_false_iff_not] at hg
    have := pig r (s ++ [v]) _ (rel_step h hg.1 hg.2.1 hg.2.2.1) hg.2.2.2
    simp only [List.length_append, List.length_cons, List.length_nil] at this ⊢; omega
theorem take_s {a : List Int} {k : Nat} (h : k < a.length) : a.take (k + 1) = a.take k ++ [a[k]] := (List.take_append_getElem h).symm
theorem refsL0 (a : List Int) (ha : a.length ≤ 1000000) : ∀ (d k n : Nat) (sn : List Bool), k + d = a.length → d < n → Rel (a.take k) sn →
    d_ops_refs_L0 a n (k : Int) sn = some (cond (goR (a.take k) (a.drop k)) (.inl ()) (.inr false))
  | _, _, 0, _, _, hn, _ => by omega
  | 0, k, n + 1, sn, hk, hn, hr => by
    rw [d_ops_refs_L0]
    refine v_F (by omega) ?_
    refine v_cF ?_
    rw [List.drop_of_length_le (by omega)]; rfl
  | d + 1, k, n + 1, sn, hk, hn, hr => by
    have hkl : k < a.length := by omega
    have hd : a.drop k = a[k] :: a.drop (k + 1) := List.drop_eq_getElem_cons hkl
    have ht := take_s hkl
    have hx : a[((k : Int)).toNat]? = some a[k] := by simp [hkl]
    rw [d_ops_refs_L0, hd]
    refine v_T (by omega) ?_
    refine v_cT ?_
    refine v_ix (by omega) hx ?_
    have ih := fun sn' => refsL0 a ha d (k + 1) n sn' (by omega) (by omega)
    rw [ht] at ih
    generalize a[k] = v at *
    simp only [goR]
    by_cases h0 : v < 0
    · refine v_bi (a := true) (v_T h0 (v_cT rfl)) ?_
      rw [decide_eq_false (show ¬ 0 ≤ v by omega)]; rfl
    by_cases h1 : v ≥ 40
    · refine v_bi (a := true) (v_F h0 (v_cF (v_T h1 (v_cT rfl)))) ?_
      rw [decide_eq_true (show 0 ≤ v by omega), decide_eq_false (show ¬ v < 40 by omega)]; rfl
    have hat := rel_at hr (by omega : 0 ≤ v) (by omega)
    rw [decide_eq_true (show 0 ≤ v by omega), decide_eq_true (show v < 40 by omega)]
    by_cases h2 : v ∈ a.take k
    · refine v_bi (a := true) (v_F h0 (v_cF (v_F h1 (v_cF (v_as (by omega) (v_ix (by omega) (hat.trans (congrArg some (decide_eq_true h2))) rfl)))))) ?_
      rw [decide_eq_true h2]; rfl
    · refine v_bi (a := false) (v_F h0 (v_cF (v_F h1 (v_cF (v_as (by omega) (v_ix (by omega) (hat.trans (congrArg some (decide_eq_false h2))) rfl)))))) ?_
      refine v_cF (v_as (by omega) (v_ix (by omega) hat (v_bnd (v_w (by omega) ?_))))
      rw [decide_eq_false h2]
      exact ih _ (rel_step hr (by omega) (by omega) h2)
theorem opsR {n : Nat} {a : List Int} (ha : a.length ≤ 1000000) (hn : a.length < n) : d_ops_refs n a = some (okR a) := by
  unfold d_ops_refs okR
  have h := refsL0 a ha a.length 0 n _ (by omega) hn rel0
  rw [List.take_zero, List.drop_zero] at h
  refine v_bi h ?_
  cases goR [] a
  · rfl
  · refine v_selb (v_bnd ?_)
    show some (decide _) = some (true && decide _)
    rw [Bool.true_and]; congr 1; exact decide_eq_decide.2 (by omega)
theorem mem_take {a : List Int} {k j : Nat} (hj : j < k) (hk : k < a.length) : a[j]'(by omega) ∈ a.take k := by
  rw [List.mem_take_iff_getElem]; exact ⟨j, by omega, rfl⟩
theorem refsL1 (a : List Int) (ha : a.length ≤ 1000000) (k : Nat) (hk : k < a.length) : ∀ (d j n : Nat), j + d = k → d < n → a[k] ∉ a.take j →
    d_ref05_refs_L1 a (k : Int) n (j : Int) = some (cond (decide (a[k] ∈ a.take k)) (.inr (.inr (.inr false))) (.inl ()))
  | _, _, 0, _, hn, _ => by omega
  | 0, j, n + 1, hj, hn, hr => by
    obtain rfl : j = k := by omega
    rw [d_ref05_refs_L1, decide_eq_false hr]
    exact v_F (by omega) (v_cF rfl)
  | d + 1, j, n + 1, hj, hn, hr => by
    have hjl : j < a.length := by omega
    have hx : a[((j : Int)).toNat]? = some a[j] := by simp [hjl]
    have hy : a[((k : Int)).toNat]? = some a[k] := by simp [hk]
    rw [d_ref05_refs_L1]
    refine v_T (by omega) (v_cT (v_ix (by omega) hx (v_ix (by omega) hy ?_)))
    by_cases he : a[j] = a[k]
    · refine v_T he (v_cT ?_)
      rw [decide_eq_true (he ▸ mem_take (by omega) hk)]; rfl
    · refine v_F he (v_cF (v_w (by omega) ?_))
      refine refsL1 a ha k hk d (j + 1) n (by omega) (by omega) ?_
      rw [take_s hjl, List.mem_append, List.mem_singleton]
      rintro (h | h)
      · exact hr h
      · exact he h.symm
theorem rrefsL0 (a : List Int) (ha : a.length ≤ 1000000) : ∀ (d k n : Nat), k + d = a.length → a.length + d < n → 
    d_ref05_refs_L0 a n (k : Int) = some (cond (goR (a.take k) (a.drop k)) (.inl ()) (.inr false))
  | _, _, 0, _, hn => by omega
  | 0, k, n + 1, hk, hn => by
    rw [d_ref05_refs_L0]
    refine v_F (by omega) ?_
    refine v_cF ?_
    rw [List.drop_of_length_le (by omega)]; rfl
  | d + 1, k, n + 1, hk, hn => by
    have hkl : k < a.length := by omega
    have hd : a.drop k = a[k] :: a.drop (k + 1) := List.drop_eq_getElem_cons hkl
    have ht := take_s hkl
    have hx : a[((k : Int)).toNat]? = some a[k] := by simp [hkl]
    have h1 := refsL1 a ha k hkl k 0 n (by omega) (by omega) (by simp)
    rw [d_ref05_refs_L0, hd]
    refine v_T (by omega) ?_
    refine v_cT ?_
    have ih := rrefsL0 a ha d (k + 1) n (by omega) (by omega)
    rw [ht] at ih
    generalize a[k] = v at *
    simp only [goR]
    by_cases h0 : v < 0
    · refine v_bi (a := .inr (.inr false)) (v_bi (a := true) (v_ix (by omega) hx (v_T h0 (v_cT rfl))) rfl) ?_
      rw [decide_eq_false (show ¬ 0 ≤ v by omega)]; rfl
    by_cases h2 : v ≥ 40
    · refine v_bi (a := .inr (.inr false)) (v_bi (a := true) (v_ix (by omega) hx (v_F h0 (v_cF (v_ix (by omega) hx (v_T h2 rfl))))) rfl) ?_
      rw [decide_eq_true (show 0 ≤ v by omega), decide_eq_false (show ¬ v < 40 by omega)]; rfl
    rw [decide_eq_true (show 0 ≤ v by omega), decide_eq_true (show v < 40 by omega)]
    by_cases h3 : v ∈ a.take k
    · rw [decide_eq_true h3] at h1 ⊢
      refine v_bi (a := .inr (.inr false)) (v_bi (a := false) (v_ix (by omega) hx (v_F h0 (v_cF (v_ix (by omega) hx (v_F h2 rfl))))) (v_cF (v_bi h1 rfl))) rfl
    · rw [decide_eq_false h3] at h1 ⊢
      refine v_bi (a := .inl ()) (v_bi (a := false) (v_ix (by omega) hx (v_F h0 (v_cF (v_ix (by omega) hx (v_F h2 rfl))))) (v_cF (v_bi h1 rfl))) ?_
      exact v_selb (v_w (by omega) ih)
theorem refR {n : Nat} {a : List Int} (ha : a.length ≤ 1000000) (hn : a.length + a.length < n) : d_ref05_refs n a = some (okR a) := by
  unfold d_ref05_refs okR
  have h := rrefsL0 a ha a.length 0 n (by omega) (by omega)
  rw [List.take_zero, List.drop_zero] at h
  refine v_bi h ?_
  cases hg : goR [] a
  · rfl
  · have hp := pig a [] _ rel0 hg
    simp only [List.length_nil] at hp
    refine v_selb ?_
    rw [Bool.true_and]
    by_cases h1 : a.length ≥ 1
    · rw [decide_eq_true (show 0 < a.length by omega)]
      exact v_bi (a := true) (v_T (by omega) (v_cT (v_T (by omega) rfl))) rfl
    · rw [decide_eq_false (show ¬ 0 < a.length by omega)]
      exact v_bi (a := false) (v_F (by omega) (v_cF rfl)) rfl
end Go.Pv
