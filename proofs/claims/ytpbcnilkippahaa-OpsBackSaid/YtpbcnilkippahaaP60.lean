import Derived.Test.YtpbcnilkippahaaP58
set_option linter.unusedSimpArgs false
set_option linter.unusedVariables false
namespace Go.Pv
set_option maxRecDepth 100000
def goR : List Int → List Int → Bool
  | _, [] => true
  | s, v :: r => decide (0 ≤ v) && (decide (v < 40) && (!decide (v ∈ s) && goR (s ++ [v]) r))
def okR (l : List Int) : Bool := goR [] l && decide (0 < l.length)
structure Rel (s : List Int) (sn : List Bool) : Prop where
  len : sn.length = 40
  at_ : ∀ j : Nat, j < 40 → sn[j]? = some (decide ((j : Int) ∈ s))
  cnt : sn.count true = s.length
theorem rel0 : Rel [] (List.replicate 40 false) := ⟨by simp, fun j hj => by rw [List.getElem?_replicate, if_pos hj]; simp, by decide⟩
theorem rel_at {s : List Int} {sn : List Bool} {v : Int} (h : Rel s sn) (h0 : 0 ≤ v) (h1 : v < 40) : sn[v.toNat]? = some (decide (v ∈ s)) := by
  have := h.at_ v.toNat (by omega)
  rwa [Int.toNat_of_nonneg h0] at this
theorem rel_step {s : List Int} {sn : List Bool} {v : Int} (h : Rel s sn) (h0 : 0 ≤ v) (h1 : v < 40) (h2 : v ∉ s) : Rel (s ++ [v]) (sn.set v.toNat true) := by
  have hl := h.len
  refine ⟨by rw [List.length_set]; exact hl, fun j hj => ?_, ?_⟩
  · rw [List.getElem?_set]
    by_cases he : v.toNat = j
    · rw [if_pos he, if_pos (by omega)]
      have : (j : Int) = v := by omega
      simp [this]
    · rw [if_neg he, h.at_ j hj]
      have : (j : Int) ≠ v := by omega
      simp [this]
  · have hi : v.toNat < sn.length := by omega
    have hv := rel_at h h0 h1
    rw [List.getElem?_eq_getElem hi] at hv
    have hv : sn[v.toNat] = false := by
      have := Option.some.inj hv; rw [this]; exact decide_eq_false h2
    rw [List.count_set hi, hv, List.length_append, h.cnt]; rfl
theorem pig : ∀ (r s : List Int) (sn : List Bool), Rel s sn → goR s r = true → s.length + r.length ≤ 40
  | [], s, sn, h, _ => by
    have := List.count_le_length (a := true) (l := sn)
    rw [h.cnt, h.len] at this; simpa using this
  | v :: r, s, sn, h, hg => by
    simp only [goR, Bool.and_eq_true, decide_eq_true_eq, Bool.not_eq_true', decide_eq_false_iff_not] at hg
    have := pig r (s ++ [v]) _ (rel_step h hg.1 hg.2.1 hg.2.2.1) hg.2.2.2
    simp only [List.length_append, List.length_cons, List.length_nil] at this ⊢; omega
theorem take_s {a : List Int} {k : Nat} (h : k < a.length) : a.take (k + 1) = a.take k ++ [a[k]] := (List.take_append_getElem h).symm
theorem refsL0 (a : List Int) (ha : a.length ≤ 1000000) : ∀ (d k n : Nat) (sn : List Bool), k + d = a.length → d < n → Rel (a.take k) sn →
    d_ops_refs_L0 a n (k : Int) sn = some (cond (goR (a.take k) (a.drop k)) (.inl ()) (.inr false))
  | _, _, 0, _, _, hn, _ => by omega
  | 0, k, n + 1, sn, hk, hn, hr => by
    rw [d_ops_refs_L0]
    refine v_F (by omega) ?_
    refine v_cF ?_
    rw [List.drop_of_length_le (by omega)]; rfl
  | d + 1, k, n + 1, sn, hk, hn, hr => by
    have hkl : k < a.length := by omega
    have hd : a.drop k = a[k] :: a.drop (k + 1) := List.drop_eq_getElem_cons hkl
    have ht := take_s hkl
    have hx : a[((k : Int)).toNat]? = some a[k] := by simp [hkl]
    rw [d_ops_refs_L0, hd]
    refine v_T (by omega) ?_
    refine v_cT ?_
    refine v_ix (by omega) hx ?_
    have ih := fun sn' => refsL0 a ha d (k + 1) n sn' (by omega) (by omega)
    rw [ht] at ih
    generalize a[k] = v at *
    simp only [goR]
    by_cases h0 : v < 0
    · refine v_bi (a := true) (v_T h0 (v_cT rfl)) ?_
      rw [decide_eq_false (show ¬ 0 ≤ v by omega)]; rfl
    by_cases h1 : v ≥ 40
    · refine v_bi (a := true) (v_F h0 (v_cF (v_T h1 (v_cT rfl)))) ?_
      rw [decide_eq_true (show 0 ≤ v by omega), decide_eq_false (show ¬ v < 40 by omega)]; rfl
    have hat := rel_at hr (by omega : 0 ≤ v) (by omega)
    rw [decide_eq_true (show 0 ≤ v by omega), decide_eq_true (show v < 40 by omega)]
    by_cases h2 : v ∈ a.take k
    · refine v_bi (a := true) (v_F h0 (v_cF (v_F h1 (v_cF (v_as (by omega) (v_ix (by omega) (hat.trans (congrArg some (decide_eq_true h2))) rfl)))))) ?_
      rw [decide_eq_true h2]; rfl
    · refine v_bi (a := false) (v_F h0 (v_cF (v_F h1 (v_cF (v_as (by omega) (v_ix (by omega) (hat.trans (congrArg some (decide_eq_false h2))) rfl)))))) ?_
      refine v_cF (v_as (by omega) (v_ix (by omega) hat (v_bnd (v_w (by omega) ?_))))
      rw [decide_eq_false h2]
      exact ih _ (rel_step hr (by omega) (by omega) h2)
theorem opsR {n : Nat} {a : List Int} (ha : a.length ≤ 1000000) (hn : a.length < n) : d_ops_refs n a = some (okR a) := by
  unfold d_ops_refs okR
  have h := refsL0 a ha a.length 0 n _ (by omega) hn rel0
  rw [List.take_zero, List.drop_zero] at h
  refine v_bi h ?_
  cases goR [] a
  · rfl
  · refine v_selb (v_bnd ?_)
    show some (decide _) = some (true && decide _)
    rw [Bool.true_and]; congr 1; exact decide_eq_decide.2 (by omega)
theorem mem_take {a : List Int} {k j : Nat} (hj : j < k) (hk : k < a.length) : a[j]'(by omega) ∈ a.take k := by
  rw [List.mem_take_iff_getElem]; exact ⟨j, by omega, rfl⟩
theorem refsL1 (a : List Int) (ha : a.length ≤ 1000000) (k : Nat) (hk : k < a.length) : ∀ (d j n : Nat), j + d = k → d < n → a[k] ∉ a.take j →
    d_ref05_refs_L1 a (k : Int) n (j : Int) = some (cond (decide (a[k] ∈ a.take k)) (.inr (.inr (.inr false))) (.inl ()))
  | _, _, 0, _, hn, _ => by omega
  | 0, j, n + 1, hj, hn, hr => by
    obtain rfl : j = k := by omega
    rw [d_ref05_refs_L1, decide_eq_false hr]
    exact v_F (by omega) (v_cF rfl)
  | d + 1, j, n + 1, hj, hn, hr => by
    have hjl : j < a.length := by omega
    have hx : a[((j : Int)).toNat]? = some a[j] := by simp [hjl]
    have hy : a[((k : Int)).toNat]? = some a[k] := by simp [hk]
    rw [d_ref05_refs_L1]
    refine v_T (by omega) (v_cT (v_ix (by omega) hx (v_ix (by omega) hy ?_)))
    by_cases he : a[j] = a[k]
    · refine v_T he (v_cT ?_)
      rw [decide_eq_true (he ▸ mem_take (by omega) hk)]; rfl
    · refine v_F he (v_cF (v_w (by omega) ?_))
      refine refsL1 a ha k hk d (j + 1) n (by omega) (by omega) ?_
      rw [take_s hjl, List.mem_append, List.mem_singleton]
      rintro (h | h)
      · exact hr h
      · exact he h.symm
theorem rrefsL0 (a : List Int) (ha : a.length ≤ 1000000) : ∀ (d k n : Nat), k + d = a.length → a.length + d < n → 
    d_ref05_refs_L0 a n (k : Int) = some (cond (goR (a.take k) (a.drop k)) (.inl ()) (.inr false))
  | _, _, 0, _, hn => by omega
  | 0, k, n + 1, hk, hn => by
    rw [d_ref05_refs_L0]
    refine v_F (by omega) ?_
    refine v_cF ?_
    rw [List.drop_of_length_le (by omega)]; rfl
  | d + 1, k, n + 1, hk, hn => by
    have hkl : k < a.length := by omega
    have hd : a.drop k = a[k] :: a.drop (k + 1) := List.drop_eq_getElem_cons hkl
    have ht := take_s hkl
    have hx : a[((k : Int)).toNat]? = some a[k] := by simp [hkl]
    have h1 := refsL1 a ha k hkl k 0 n (by omega) (by omega) (by simp)
    rw [d_ref05_refs_L0, hd]
    refine v_T (by omega) ?_
    refine v_cT ?_
    have ih := rrefsL0 a ha d (k + 1) n (by omega) (by omega)
    rw [ht] at ih
    generalize a[k] = v at *
    simp only [goR]
    by_cases h0 : v < 0
    · refine v_bi (a := .inr (.inr false)) (v_bi (a := true) (v_ix (by omega) hx (v_T h0 (v_cT rfl))) rfl) ?_
      rw [decide_eq_false (show ¬ 0 ≤ v by omega)]; rfl
    by_cases h2 : v ≥ 40
    · refine v_bi (a := .inr (.inr false)) (v_bi (a := true) (v_ix (by omega) hx (v_F h0 (v_cF (v_ix (by omega) hx (v_T h2 rfl))))) rfl) ?_
      rw [decide_eq_true (show 0 ≤ v by omega), decide_eq_false (show ¬ v < 40 by omega)]; rfl
    rw [decide_eq_true (show 0 ≤ v by omega), decide_eq_true (show v < 40 by omega)]
    by_cases h3 : v ∈ a.take k
    · rw [decide_eq_true h3] at h1 ⊢
      refine v_bi (a := .inr (.inr false)) (v_bi (a := false) (v_ix (by omega) hx (v_F h0 (v_cF (v_ix (by omega) hx (v_F h2 rfl))))) (v_cF (v_bi h1 rfl))) rfl
    · rw [decide_eq_false h3] at h1 ⊢
      refine v_bi (a := .inl ()) (v_bi (a := false) (v_ix (by omega) hx (v_F h0 (v_cF (v_ix (by omega) hx (v_F h2 rfl))))) (v_cF (v_bi h1 rfl))) ?_
      exact v_selb (v_w (by omega) ih)
theorem refR {n : Nat} {a : List Int} (ha : a.length ≤ 1000000) (hn : a.length + a.length < n) : d_ref05_refs n a = some (okR a) := by
  unfold d_ref05_refs okR
  have h := rrefsL0 a ha a.length 0 n (by omega) (by omega)
  rw [List.take_zero, List.drop_zero] at h
  refine v_bi h ?_
  cases hg : goR [] a
  · rfl
  · have hp := pig a [] _ rel0 hg
    simp only [List.length_nil] at hp
    refine v_selb ?_
    rw [Bool.true_and]
    by_cases h1 : a.length ≥ 1
    · rw [decide_eq_true (show 0 < a.length by omega)]
      exact v_bi (a := true) (v_T (by omega) (v_cT (v_T (by omega) rfl))) rfl
    · rw [decide_eq_false (show ¬ 0 < a.length by omega)]
      exact v_bi (a := false) (v_F (by omega) (v_cF rfl)) rfl
end Go.Pv
set_option linter.unusedSimpArgs false
set_option linter.unusedVariables false
namespace Go.Pv
set_option maxRecDepth 100000
set_option maxHeartbeats 4000000
def okM (o : GOp) : Bool := (d_ops_Check (o.Refs.length + 1) o).getD false
def fewR (o : GOp) : Prop := o.Refs.length ≤ 1000000
theorem kinds {k : Int} (h : ¬ (k < 1 ∨ k > 16)) : k = 1 ∨ k = 2 ∨ k = 3 ∨ k = 4 ∨ k = 5 ∨ k = 6 ∨ k = 7 ∨ k = 8 ∨ k = 9 ∨ k = 10 ∨ k = 11 ∨ k = 12 ∨ k = 13 ∨ k = 14 ∨ k = 15 ∨ k = 16 := by omega
theorem chkP {n : Nat} {o : GOp} (hf : fewR o) (hn : o.Refs.length < n) : d_ops_Check n o = some (okM o) := by
  obtain ⟨k, a, b, c, d, e, f, g, l⟩ := o
  unfold okM
  replace hn : l.length < n := hn
  replace hf : l.length ≤ 1000000 := hf
  show _ = some ((d_ops_Check (l.length + 1) _).getD false)
  have hs : ∀ x : Option Bool, x.isSome = true → x = some (x.getD false) := by intro x h; cases x <;> first | rfl | cases h
  by_cases hk : k < 1 ∨ k > 16
  · have e := fun m => eqO (n := m) (m := 0) (a := a) (b := b) (c := c) (d := d) (e := e) (f := f) (g := g) (l := l) hk
    rw [e, e]; rfl
  rcases kinds hk with rfl | rfl | rfl | rfl | rfl | rfl | rfl | rfl | rfl | rfl | rfl | rfl | rfl | rfl | rfl | rfl
  case inr.inr.inr.inr.inr.inr.inr.inr.inr.inr.inl =>
    rw [chk11, chk11, opsR hf hn, opsR hf (Nat.lt_succ_self _)]
    apply hs
    simp only [cond_eq_ite]
    repeat' split
    all_goals rfl
  all_goals
    first | rw [chk1, chk1] | rw [chk2, chk2] | rw [chk3, chk3] | rw [chk4, chk4] | rw [chk5, chk5] | rw [chk6, chk6] | rw [chk7, chk7] | rw [chk8, chk8] | rw [chk9, chk9] | rw [chk10, chk10] | rw [chk12, chk12] | rw [chk13, chk13] | rw [chk14, chk14] | rw [chk15, chk15] | rw [chk16, chk16]
    apply hs
    simp only [cond_eq_ite]
    repeat' split
    all_goals rfl
theorem has_o {k : Int} (h : k < 1 ∨ k > 16) : d_ref05_has k = some [] := by
  have h2 : ∀ j : Int, (1 ≤ j ∧ j ≤ 16) → decide (k = j) = false := fun j hj => decide_eq_false (by omega)
  unfold d_ref05_has
  rw [h2 1 (by decide), h2 2 (by decide), h2 3 (by decide), h2 4 (by decide), h2 5 (by decide), h2 6 (by decide), h2 7 (by decide), h2 8 (by decide), h2 9 (by decide), h2 10 (by decide), h2 11 (by decide), h2 12 (by decide), h2 13 (by decide), h2 14 (by decide), h2 15 (by decide), h2 16 (by decide)]
  rfl
theorem part_s {n : Nat} (o x : GOp) {t : Bool} (h : d_ref05_refs n o.Refs = some t) : d_ref05_part n o x 115 = some ({ x with Refs := o.Refs }, t) := by
  unfold d_ref05_part
  simp only [h]
  kernel_rfl
theorem to11 {a b c d e f g : Int} {l : List Int} : d_ref05_to ⟨11, a, b, c, d, e, f, g, l⟩ = some (decide (d ≥ 0) && decide (d ≤ 2)) := by
  unfold d_ref05_to
  simp only [bl2]
  kernel_rfl
theorem sameI (l m : List Int) (h : l.length ≤ 1000000) {n : Nat} (hn : l.length < n) : d_ref04_SameInts n l m = some (decide (l = m)) := by
  unfold d_ref04_SameInts
  by_cases hl : l.length = m.length
  · have go : ∀ (d k n : Nat), k + d = l.length → d < n → l.take k = m.take k → d_ref04_SameInts_L0 l m n (k : Int) = some (cond (decide (l = m)) (.inl ()) (.inr false)) := by
      intro d
      induction d with
      | zero =>
        intro k n hk hn ht
        obtain ⟨p, rfl⟩ : ∃ p, n = p + 1 := ⟨n - 1, by omega⟩
        rw [d_ref04_SameInts_L0]
        rw [List.take_of_length_le (by omega), List.take_of_length_le (by omega)] at ht
        rw [decide_eq_true ht]
        exact v_F (by omega) (v_cF rfl)
      | succ d ih =>
        intro k n hk hn ht
        obtain ⟨p, rfl⟩ : ∃ p, n = p + 1 := ⟨n - 1, by omega⟩
        have hx : l[((k : Int)).toNat]? = some l[k] := by simp
        have hy : m[((k : Int)).toNat]? = some m[k] := by simp
        rw [d_ref04_SameInts_L0]
        refine v_T (by omega) (v_cT (v_ix (by omega) hx (v_ix (by omega) hy ?_)))
        by_cases he : l[k] = m[k]
        · refine v_F (by simp [he]) (v_cF (v_w (by omega) (ih (k + 1) p (by omega) (by omega) ?_)))
          rw [take_s (show k < l.length by omega), take_s (show k < m.length by omega), ht, he]
        · have : l ≠ m := by rintro rfl; exact he rfl
          rw [decide_eq_false this]
          exact v_T he (v_cT rfl)
    refine v_F (by omega) (v_cF (v_bi (go l.length 0 n (by omega) hn (by simp)) ?_))
    cases decide (l = m) <;> rfl
  · have : l ≠ m := by rintro rfl; exact hl rfl
    rw [decide_eq_false this]
    exact v_T (by omega) (v_cT rfl)
theorem gop_eq (x y : GOp) : decide (x = y) = (decide (x.Kind = y.Kind) && (decide (x.E = y.E) && (decide (x.Item = y.Item) && (decide (x.Loc = y.Loc) && (decide (x.To = y.To) && (decide (x.Qty = y.Qty) && (decide (x.Amount = y.Amount) && (decide (x.Ref = y.Ref) && decide (x.Refs = y.Refs))))))))) := by
  obtain ⟨k, a, b, c, d, e, f, g, l⟩ := x
  obtain ⟨k', a', b', c', d', e', f', g', l'⟩ := y
  simp only [GOp.mk.injEq, Bool.decide_and]
theorem sameR (x y : GOp) (h : fewR x) {n : Nat} (hn : x.Refs.length < n) : d_ref05_same n x y = some (decide (x = y)) := by
  rw [same_e, sameI _ _ h hn, gop_eq]
  cases decide (x.Kind = y.Kind)
  · rfl
  cases decide (x.E = y.E)
  · rfl
  cases decide (x.Item = y.Item)
  · rfl
  cases decide (x.Loc = y.Loc)
  · rfl
  cases decide (x.To = y.To)
  · rfl
  cases decide (x.Qty = y.Qty)
  · rfl
  cases decide (x.Amount = y.Amount)
  · rfl
  cases decide (x.Ref = y.Ref) <;> rfl
end Go.Pv
