/- ops: which operations may be: the program and the document say the same. -/
import Derived.Test.YtpbcnilkippahaaP59
set_option linter.unusedSimpArgs false
set_option linter.unusedVariables false
namespace Go.Pv
set_option maxRecDepth 100000
set_option maxHeartbeats 4000000
def okM (o : GOp) : Bool := (d_ops_Check (o.Refs.length + 1) o).getD false
def fewR (o : GOp) : Prop := o.Refs.length ≤ 1000000
theorem kinds {k : Int} (h : ¬ (k < 1 ∨ k > 16)) : k = 1 ∨ k = 2 ∨ k = 3 ∨ k = 4 ∨ k = 5 ∨ k = 6 ∨ k = 7 ∨ k = 8 ∨ k = 9 ∨ k = 10 ∨ k = 11 ∨ k = 12 ∨ k = 13 ∨ k = 14 ∨ k = 15 ∨ k = 16 := by omega
theorem chkP {n : Nat} {o : GOp} (hf : fewR o) (hn : o.Refs.length < n) : d_ops_Check n o = some (okM o) := by
  obtain ⟨k, a, b, c, d, e, f, g, l⟩ := o
  unfold okM
  replace hn : l.length < n := hn
  replace hf : l.length ≤ 1000000 := hf
  show _ = some ((d_ops_Check (l.length + 1) _).getD false)
  have hs : ∀ x : Option Bool, x.isSome = true → x = some (x.getD false) := by intro x h; cases x <;> first | rfl | cases h
  by_cases hk : k < 1 ∨ k > 16
  · have e := fun m => eqO (n := m) (m := 0) (a := a) (b := b) (c := c) (d := d) (e := e) (f := f) (g := g) (l := l) hk
    rw [e, e]; rfl
  rcases kinds hk with rfl | rfl | rfl | rfl | rfl | rfl | rfl | rfl | rfl | rfl | rfl | rfl | rfl | rfl | rfl | rfl
  case inr.inr.inr.inr.inr.inr.inr.inr.inr.inr.inl =>
    rw [chk11, chk11, opsR hf hn, opsR hf (Nat.lt_succ_self _)]
    apply hs
    simp only [cond_eq_ite]
    repeat' split
    all_goals rfl
  all_goals
    first | rw [chk1, chk1] | rw [chk2, chk2] | rw [chk3, chk3] | rw [chk4, chk4] | rw [chk5, chk5] | rw [chk6, chk6] | rw [chk7, chk7] | rw [chk8, chk8] | rw [chk9, chk9] | rw [chk10, chk10] | rw [chk12, chk12] | rw [chk13, chk13] | rw [chk14, chk14] | rw [chk15, chk15] | rw [chk16, chk16]
    apply hs
    simp only [cond_eq_ite]
    repeat' split
    all_goals rfl
theorem has_o {k : Int} (h : k < 1 ∨ k > 16) : d_ref05_has k = some [] := by
  have h2 : ∀ j : Int, (1 ≤ j ∧ j ≤ 16) → decide (k = j) = false := fun j hj => decide_eq_false (by omega)
  unfold d_ref05_has
  rw [h2 1 (by decide), h2 2 (by decide), h2 3 (by decide), h2 4 (by decide), h2 5 (by decide), h2 6 (by decide), h2 7 (by decide), h2 8 (by decide), h2 9 (by decide), h2 10 (by decide), h2 11 (by decide), h2 12 (by decide), h2 13 (by decide), h2 14 (by decide), h2 15 (by decide), h2 16 (by decide)]
  rfl
theorem part_s {n : Nat} (o x : GOp) {t : Bool} (h : d_ref05_refs n o.Refs = some t) : d_ref05_part n o x 115 = some ({ x with Refs := o.Refs }, t) := by
  unfold d_ref05_part
  simp only [h]
  kernel_rfl
theorem to11 {a b c d e f g : Int} {l : List Int} : d_ref05_to ⟨11, a, b, c, d, e, f, g, l⟩ = some (decide (d ≥ 0) && decide (d ≤ 2)) := by
  unfold d_ref05_to
  simp only [bl2]
  kernel_rfl
theorem sameI (l m : List Int) (h : l.length ≤ 1000000) {n : Nat} (hn : l.length < n) : d_ref04_SameInts n l m = some (decide (l = m)) := by
  unfold d_ref04_SameInts
  by_cases hl : l.length = m.length
  · have go : ∀ (d k n : Nat), k + d = l.length → d < n → l.take k = m.take k → d_ref04_SameInts_L0 l m n (k : Int) = some (cond (decide (l = m)) (.inl ()) (.inr false)) := by
      intro d
      induction d with
      | zero =>
        intro k n hk hn ht
        obtain ⟨p, rfl⟩ : ∃ p, n = p + 1 := ⟨n - 1, by omega⟩
        rw [d_ref04_SameInts_L0]
        rw [List.take_of_length_le (by omega), List.take_of_length_le (by omega)] at ht
        rw [decide_eq_true ht]
        exact v_F (by omega) (v_cF rfl)
      | succ d ih =>
        intro k n hk hn ht
        obtain ⟨p, rfl⟩ : ∃ p, n = p + 1 := ⟨n - 1, by omega⟩
        have hx : l[((k : Int)).toNat]? = some l[k] := by simp
        have hy : m[((k : Int)).toNat]? = some m[k] := by simp
        rw [d_ref04_SameInts_L0]
        refine v_T (by omega) (v_cT (v_ix (by omega) hx (v_ix (by omega) hy ?_)))
        by_cases he : l[k] = m[k]
        · refine v_F (by simp [he]) (v_cF (v_w (by omega) (ih (k + 1) p (by omega) (by omega) ?_)))
          rw [take_s (show k < l.length by omega), take_s (show k < m.length by omega), ht, he]
        · have : l ≠ m := by rintro rfl; exact he rfl
          rw [decide_eq_false this]
          exact v_T he (v_cT rfl)
    refine v_F (by omega) (v_cF (v_bi (go l.length 0 n (by omega) hn (by simp)) ?_))
    cases decide (l = m) <;> rfl
  · have : l ≠ m := by rintro rfl; exact hl rfl
    rw [decide_eq_false this]
    exact v_T (by omega) (v_cT rfl)
theorem equI (l m : List Int) (h : l.length ≤ 1000000) {n : Nat} (hn : l.length < n) : d_slices_Equal_int_int n l m = some (decide (l = m)) := by
  unfold d_slices_Equal_int_int
  by_cases hl : l.length = m.length
  · have go : ∀ (d k n : Nat), k + d = l.length → d < n → l.take k = m.take k → d_slices_Equal_int_int_L0 l m n (k : Int) = some (cond (decide (l = m)) (.inl ()) (.inr false)) := by
      intro d
      induction d with
      | zero =>
        intro k n hk hn ht
        obtain ⟨p, rfl⟩ : ∃ p, n = p + 1 := ⟨n - 1, by omega⟩
        rw [d_slices_Equal_int_int_L0]
        rw [List.take_of_length_le (by omega), List.take_of_length_le (by omega)] at ht
        rw [decide_eq_true ht]
        exact v_F (by omega) (v_cF rfl)
      | succ d ih =>
        intro k n hk hn ht
        obtain ⟨p, rfl⟩ : ∃ p, n = p + 1 := ⟨n - 1, by omega⟩
        have hx : l[((k : Int)).toNat]? = some l[k] := by simp
        have hy : m[((k : Int)).toNat]? = some m[k] := by simp
        rw [d_slices_Equal_int_int_L0]
        refine v_T (by omega) (v_cT (v_ix (by omega) hx (v_ix (by omega) hy ?_)))
        by_cases he : l[k] = m[k]
        · refine v_F (by simp [he]) (v_cF (v_w (by omega) (ih (k + 1) p (by omega) (by omega) ?_)))
          rw [take_s (show k < l.length by omega), take_s (show k < m.length by omega), ht, he]
        · have : l ≠ m := by rintro rfl; exact he rfl
          rw [decide_eq_false this]
          exact v_T he (v_cT rfl)
    refine v_F (by omega) (v_cF (v_bi (go l.length 0 n (by omega) hn (by simp)) ?_))
    cases decide (l = m) <;> rfl
  · have : l ≠ m := by rintro rfl; exact hl rfl
    rw [decide_eq_false this]
    exact v_T (by omega) (v_cT rfl)
theorem gop_eq (x y : GOp) : decide (x = y) = (decide (x.Kind = y.Kind) && (decide (x.E = y.E) && (decide (x.Item = y.Item) && (decide (x.Loc = y.Loc) && (decide (x.To = y.To) && (decide (x.Qty = y.Qty) && (decide (x.Amount = y.Amount) && (decide (x.Ref = y.Ref) && decide (x.Refs = y.Refs))))))))) := by
  obtain ⟨k, a, b, c, d, e, f, g, l⟩ := x
  obtain ⟨k', a', b', c', d', e', f', g', l'⟩ := y
  simp only [GOp.mk.injEq, Bool.decide_and]
theorem sameR (x y : GOp) (h : fewR x) {n : Nat} (hn : x.Refs.length < n) : d_ref05_same n x y = some (decide (x = y)) := by
  rw [same_e, sameI _ _ h hn, gop_eq]
  cases decide (x.Kind = y.Kind)
  · rfl
  cases decide (x.E = y.E)
  · rfl
  cases decide (x.Item = y.Item)
  · rfl
  cases decide (x.Loc = y.Loc)
  · rfl
  cases decide (x.To = y.To)
  · rfl
  cases decide (x.Qty = y.Qty)
  · rfl
  cases decide (x.Amount = y.Amount)
  · rfl
  cases decide (x.Ref = y.Ref) <;> rfl
theorem sameP (x y : GOp) (h : fewR x) {n : Nat} (hn : x.Refs.length < n) : d_ops_same n x y = some (decide (x = y)) := by
  have he := equI x.Refs y.Refs h hn
  obtain ⟨k, a, b, c, d, e, f, g, l⟩ := x
  obtain ⟨k', a', b', c', d', e', f', g', l'⟩ := y
  simp only [GOp.mk.injEq]
  replace he : d_slices_Equal_int_int n l l' = some (decide (l = l')) := he
  unfold d_ops_same
  refine v_bi rfl (v_bi rfl ?_)
  by_cases h0 : a = a'
  case neg => rw [decide_eq_false (show ¬ (k = k' ∧ a = a' ∧ b = b' ∧ c = c' ∧ d = d' ∧ e = e' ∧ f = f' ∧ g = g' ∧ l = l') from fun h => h0 h.2.1)]; exact v_T h0 (v_cT rfl)
  refine v_F (show ¬ (a ≠ a') from fun h => h h0) (v_cF ?_)
  refine v_bi rfl (v_bi rfl ?_)
  by_cases h1 : b = b'
  case neg => rw [decide_eq_false (show ¬ (k = k' ∧ a = a' ∧ b = b' ∧ c = c' ∧ d = d' ∧ e = e' ∧ f = f' ∧ g = g' ∧ l = l') from fun h => h1 h.2.2.1)]; exact v_T h1 (v_cT rfl)
  refine v_F (show ¬ (b ≠ b') from fun h => h h1) (v_cF ?_)
  refine v_bi rfl (v_bi rfl ?_)
  by_cases h2 : c = c'
  case neg => rw [decide_eq_false (show ¬ (k = k' ∧ a = a' ∧ b = b' ∧ c = c' ∧ d = d' ∧ e = e' ∧ f = f' ∧ g = g' ∧ l = l') from fun h => h2 h.2.2.2.1)]; exact v_T h2 (v_cT rfl)
  refine v_F (show ¬ (c ≠ c') from fun h => h h2) (v_cF ?_)
  refine v_bi rfl (v_bi rfl ?_)
  by_cases h3 : d = d'
  case neg => rw [decide_eq_false (show ¬ (k = k' ∧ a = a' ∧ b = b' ∧ c = c' ∧ d = d' ∧ e = e' ∧ f = f' ∧ g = g' ∧ l = l') from fun h => h3 h.2.2.2.2.1)]; exact v_T h3 (v_cT rfl)
  refine v_F (show ¬ (d ≠ d') from fun h => h h3) (v_cF ?_)
  refine v_bi rfl (v_bi rfl ?_)
  by_cases h4 : e = e'
  case neg => rw [decide_eq_false (show ¬ (k = k' ∧ a = a' ∧ b = b' ∧ c = c' ∧ d = d' ∧ e = e' ∧ f = f' ∧ g = g' ∧ l = l') from fun h => h4 h.2.2.2.2.2.1)]; exact v_T h4 (v_cT rfl)
  refine v_F (show ¬ (e ≠ e') from fun h => h h4) (v_cF ?_)
  refine v_bi rfl (v_bi rfl ?_)
  by_cases h5 : f = f'
  case neg => rw [decide_eq_false (show ¬ (k = k' ∧ a = a' ∧ b = b' ∧ c = c' ∧ d = d' ∧ e = e' ∧ f = f' ∧ g = g' ∧ l = l') from fun h => h5 h.2.2.2.2.2.2.1)]; exact v_T h5 (v_cT rfl)
  refine v_F (show ¬ (f ≠ f') from fun h => h h5) (v_cF ?_)
  refine v_bi rfl (v_bi rfl ?_)
  by_cases h6 : g = g'
  case neg => rw [decide_eq_false (show ¬ (k = k' ∧ a = a' ∧ b = b' ∧ c = c' ∧ d = d' ∧ e = e' ∧ f = f' ∧ g = g' ∧ l = l') from fun h => h6 h.2.2.2.2.2.2.2.1)]; exact v_T h6 (v_cT rfl)
  refine v_F (show ¬ (g ≠ g') from fun h => h h6) (v_cF ?_)
  by_cases hk : k = k'
  case neg => rw [decide_eq_false (show ¬ (k = k' ∧ a = a' ∧ b = b' ∧ c = c' ∧ d = d' ∧ e = e' ∧ f = f' ∧ g = g' ∧ l = l') from fun h => hk h.1)]; exact v_bi (v_F hk (v_cF rfl)) rfl
  refine v_bi (v_T hk (v_cT (v_bi he rfl))) ?_
  congr 1; exact decide_eq_decide.2 ⟨fun h => ⟨hk, h0, h1, h2, h3, h4, h5, h6, h⟩, fun h => h.2.2.2.2.2.2.2.2⟩
end Go.Pv
