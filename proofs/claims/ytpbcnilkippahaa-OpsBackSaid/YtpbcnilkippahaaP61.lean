/- ops: what Check says: in both texts the same; what an operation that may be is like. -/
import Derived.Test.YtpbcnilkippahaaP60
set_option linter.unusedSimpArgs false
set_option linter.unusedVariables false
namespace Go.Pv
set_option maxRecDepth 100000
set_option maxHeartbeats 400000
theorem rck11 {n : Nat} {o : GOp} (hk : o.Kind = 11) {t u : Bool} (ht : d_ref05_to o = some t) (hu : d_ref05_refs (n + 9) o.Refs = some u) : d_ref05_Check (n + 12) o = (cond t (cond (decide (o.Amount ≥ 0) && (decide (o.Amount ≤ 1125899906842624) && (decide (o.Amount ≤ 1073741824) || (decide (o.Kind ≠ 9) && decide (o.Kind ≠ 10))))) (cond u (d_ref05_same (n + 12) o ⟨o.Kind, 0, 0, 0, o.To, 0, o.Amount, 0, o.Refs⟩) (some false)) (some false)) (some false)) := by
  unfold d_ref05_Check
  rw [show d_ref05_has o.Kind = some ([116, 97, 115] : List UInt8) by rw [hk]; rfl]
  show ((d_ref05_Check_L0 o ([116, 97, 115] : List UInt8) (n + 12) 0 ⟨o.Kind, 0, 0, 0, 0, 0, 0, 0, []⟩).bind _) = _
  rw [l0_go (i := 0) (j := 1) rfl rfl (part_t _ _ ht) rfl]
  rw [l0_go (i := 1) (j := 2) rfl rfl (part_a _ _) rfl]
  rw [l0_go (i := 2) (j := 3) rfl rfl (part_s _ _ hu) rfl]
  rw [l0_end rfl]
  cases t
  · rfl
  cases (decide (o.Amount ≥ 0) && (decide (o.Amount ≤ 1125899906842624) && (decide (o.Amount ≤ 1073741824) || (decide (o.Kind ≠ 9) && decide (o.Kind ≠ 10)))))
  · rfl
  cases u
  · rfl
  show ((d_ref05_same _ _ _).bind _).bind _ = _
  cases d_ref05_same (n + 12) o _ <;> rfl
theorem eq11 {n m : Nat} {a b c d e f g : Int} {l : List Int} (hf : l.length ≤ 1000000) (hn : l.length < n) (hm : l.length + l.length < m) : d_ref05_Check (m + 12) ⟨11, a, b, c, d, e, f, g, l⟩ = d_ops_Check n ⟨11, a, b, c, d, e, f, g, l⟩ := by
  have hu : d_ref05_refs (m + 9) l = some (okR l) := refR hf (by omega)
  have hs := sameR (⟨11, a, b, c, d, e, f, g, l⟩ : GOp) ⟨11, 0, 0, 0, d, 0, f, 0, l⟩ hf (n := m + 12) (show l.length < m + 12 by omega)
  have h := rck11 (n := m) (o := ⟨11, a, b, c, d, e, f, g, l⟩) rfl to11 hu
  refine h.trans ?_
  rw [chk11, opsR hf hn]
  show cond _ (cond _ (cond _ (d_ref05_same (m + 12) (⟨11, a, b, c, d, e, f, g, l⟩ : GOp) ⟨11, 0, 0, 0, d, 0, f, 0, l⟩) _) _) _ = _
  rw [hs]
  simp only [GOp.mk.injEq, cond_eq_ite, Bool.and_eq_true, Bool.or_eq_true, decide_eq_true_eq, true_and, and_true, Option.bind_some]
  cases okR l
  · simp only [if_false, Bool.false_eq_true]
    repeat' split
    all_goals first | rfl | (exfalso; omega)
  · repeat' split
    all_goals first | rfl | (exfalso; omega) | (simp only [*, decide_true, decide_false]; done) | (congr 1; apply decide_eq_true; omega) | (congr 1; apply decide_eq_false; omega)
theorem chkD {n : Nat} {o : GOp} (hf : fewR o) (hn : o.Refs.length + o.Refs.length + 12 < n) : d_ref05_Check n o = some (okM o) := by
  obtain ⟨m, rfl⟩ : ∃ m, n = m + 12 := ⟨n - 12, by omega⟩
  obtain ⟨k, a, b, c, d, e, f, g, l⟩ := o
  replace hn : l.length + l.length + 12 < m + 12 := hn
  replace hf : l.length ≤ 1000000 := hf
  rw [← chkP (n := l.length + 1) (o := ⟨k, a, b, c, d, e, f, g, l⟩) hf (Nat.lt_succ_self _)]
  by_cases hk : k < 1 ∨ k > 16
  · have e' := fun m => eqO (n := m) (m := 0) (a := a) (b := b) (c := c) (d := d) (e := e) (f := f) (g := g) (l := l) hk
    rw [e']
    unfold d_ref05_Check
    refine v_bi (has_o hk) (v_bi (l0_end rfl) (v_selb ?_))
    rfl
  rcases kinds hk with rfl | rfl | rfl | rfl | rfl | rfl | rfl | rfl | rfl | rfl | rfl | rfl | rfl | rfl | rfl | rfl
  · exact eq1
  · exact eq2
  · exact eq3
  · exact eq4
  · exact eq5
  · exact eq6
  · exact eq7
  · exact eq8
  · exact eq9
  · exact eq10
  · exact eq11 hf (Nat.lt_succ_self _) (by omega)
  · exact eq12
  · exact eq13
  · exact eq14
  · exact eq15
  · exact eq16
theorem goR_mem : ∀ (l s : List Int), goR s l = true → ∀ x ∈ l, 0 ≤ x ∧ x < 40
  | [], _, _, x, h => by cases h
  | v :: r, s, hg, x, h => by
    simp only [goR, Bool.and_eq_true, decide_eq_true_eq, Bool.not_eq_true', decide_eq_false_iff_not] at hg
    rcases List.mem_cons.1 h with rfl | h
    · exact ⟨hg.1, hg.2.1⟩
    · exact goR_mem r _ hg.2.2.2 x h
def hasM (k : Int) : List UInt8 :=
  if k = 1 ∨ k = 4 then [101, 105, 108, 113, 97] else if k = 2 ∨ k = 5 then [113, 97, 114] else if k = 3 then [113, 114] else if k = 6 ∨ k = 7 then [101, 105, 108, 113]
  else if k = 8 then [101, 105, 108, 116, 113] else if k = 9 ∨ k = 10 then [101, 105, 97] else if k = 11 then [116, 97, 115] else if k = 12 then [101, 105, 108, 116, 113, 97]
  else if k = 13 then [108, 113, 114] else if k = 14 ∨ k = 15 ∨ k = 16 then [101] else []
theorem hasE (k : Int) : d_ref05_has k = some (hasM k) := by
  by_cases hk : k < 1 ∨ k > 16
  · rw [has_o hk]; unfold hasM
    rw [if_neg (by omega), if_neg (by omega), if_neg (by omega), if_neg (by omega), if_neg (by omega), if_neg (by omega), if_neg (by omega), if_neg (by omega), if_neg (by omega), if_neg (by omega)]
  rcases kinds hk with rfl | rfl | rfl | rfl | rfl | rfl | rfl | rfl | rfl | rfl | rfl | rfl | rfl | rfl | rfl | rfl <;> rfl
def setF (o : GOp) (x : GOp) (c : UInt8) : GOp :=
  if c = 101 then { x with E := o.E } else if c = 105 then { x with Item := o.Item } else if c = 108 then { x with Loc := o.Loc } else if c = 116 then { x with To := o.To }
  else if c = 113 then { x with Qty := o.Qty } else if c = 97 then { x with Amount := o.Amount } else if c = 114 then { x with Ref := o.Ref } else { x with Refs := o.Refs }
def projM (o : GOp) : GOp := (hasM o.Kind).foldl (setF o) ⟨o.Kind, 0, 0, 0, 0, 0, 0, 0, []⟩
structure Fits (o : GOp) : Prop where
  k : 1 ≤ o.Kind ∧ o.Kind ≤ 16
  a : 0 ≤ o.E ∧ o.E ≤ 3
  b : 0 ≤ o.Item ∧ o.Item ≤ 4
  c : 0 ≤ o.Loc ∧ o.Loc ≤ 1
  d : 0 ≤ o.To ∧ o.To ≤ 3
  e : 0 ≤ o.Qty ∧ o.Qty ≤ 1073741824
  f : 0 ≤ o.Amount ∧ o.Amount ≤ 1125899906842624
  g : 0 ≤ o.Ref ∧ o.Ref ≤ 39
  l : o.Refs.length ≤ 40
  m : ∀ x ∈ o.Refs, 0 ≤ x ∧ x < 40
  p : o = projM o
theorem okR_f {l : List Int} (h : okR l = true) : l.length ≤ 40 ∧ ∀ x ∈ l, 0 ≤ x ∧ x < 40 := by
  unfold okR at h
  rw [Bool.and_eq_true] at h
  exact ⟨by simpa using pig l [] _ rel0 h.1, goR_mem l _ h.1⟩
theorem okM_f {o : GOp} (hf : fewR o) (h : okM o = true) : Fits o := by
  obtain ⟨k, a, b, c, d, e, f, g, l⟩ := o
  have h2 := chkP (n := l.length + 1) (o := ⟨k, a, b, c, d, e, f, g, l⟩) hf (Nat.lt_succ_self _)
  rw [h] at h2
  by_cases hk : k < 1 ∨ k > 16
  · have e' := fun m => eqO (n := m) (m := 0) (a := a) (b := b) (c := c) (d := d) (e := e) (f := f) (g := g) (l := l) hk
    rw [e'] at h2; cases h2
  rcases kinds hk with rfl | rfl | rfl | rfl | rfl | rfl | rfl | rfl | rfl | rfl | rfl | rfl | rfl | rfl | rfl | rfl
  case inr.inr.inr.inr.inr.inr.inr.inr.inr.inr.inl =>
    rw [chk11, opsR hf (Nat.lt_succ_self _)] at h2
    simp only [cond_eq_ite, Bool.or_eq_true, decide_eq_true_eq] at h2
    repeat' split at h2
    all_goals first | (cases h2; done) | skip
    have h3 : okR l = true := Option.some.inj h2
    have h4 := okR_f h3
    refine ⟨by dsimp only; omega, by dsimp only; omega, by dsimp only; omega, by dsimp only; omega, by dsimp only; omega, by dsimp only; omega, by dsimp only; omega, by dsimp only; omega, h4.1, h4.2, ?_⟩
    show _ = (⟨11, 0, 0, 0, d, 0, f, 0, l⟩ : GOp)
    simp only [GOp.mk.injEq, true_and, and_true]; omega
  all_goals
    first | rw [chk1] at h2 | rw [chk2] at h2 | rw [chk3] at h2 | rw [chk4] at h2 | rw [chk5] at h2 | rw [chk6] at h2 | rw [chk7] at h2 | rw [chk8] at h2 | rw [chk9] at h2 | rw [chk10] at h2 | rw [chk12] at h2 | rw [chk13] at h2 | rw [chk14] at h2 | rw [chk15] at h2 | rw [chk16] at h2
    simp only [cond_eq_ite, Bool.or_eq_true, decide_eq_true_eq] at h2
    repeat' split at h2
    all_goals first | (cases h2; done) | skip
    have hl : l = [] := List.eq_nil_of_length_eq_zero (by omega)
    subst hl
    refine ⟨by dsimp only; omega, by dsimp only; omega, by dsimp only; omega, by dsimp only; omega, by dsimp only; omega, by dsimp only; omega, by dsimp only; omega, by dsimp only; omega, by simp, (fun x hx => by cases hx), ?_⟩
    first
      | (show _ = (⟨1, a, b, c, 0, e, f, 0, []⟩ : GOp); simp only [GOp.mk.injEq, true_and, and_true]; omega)
      | (show _ = (⟨4, a, b, c, 0, e, f, 0, []⟩ : GOp); simp only [GOp.mk.injEq, true_and, and_true]; omega)
      | (show _ = (⟨2, 0, 0, 0, 0, e, f, g, []⟩ : GOp); simp only [GOp.mk.injEq, true_and, and_true]; omega)
      | (show _ = (⟨5, 0, 0, 0, 0, e, f, g, []⟩ : GOp); simp only [GOp.mk.injEq, true_and, and_true]; omega)
      | (show _ = (⟨3, 0, 0, 0, 0, e, 0, g, []⟩ : GOp); simp only [GOp.mk.injEq, true_and, and_true]; omega)
      | (show _ = (⟨6, a, b, c, 0, e, 0, 0, []⟩ : GOp); simp only [GOp.mk.injEq, true_and, and_true]; omega)
      | (show _ = (⟨7, a, b, c, 0, e, 0, 0, []⟩ : GOp); simp only [GOp.mk.injEq, true_and, and_true]; omega)
      | (show _ = (⟨8, a, b, c, d, e, 0, 0, []⟩ : GOp); simp only [GOp.mk.injEq, true_and, and_true]; omega)
      | (show _ = (⟨9, a, b, 0, 0, 0, f, 0, []⟩ : GOp); simp only [GOp.mk.injEq, true_and, and_true]; omega)
      | (show _ = (⟨10, a, b, 0, 0, 0, f, 0, []⟩ : GOp); simp only [GOp.mk.injEq, true_and, and_true]; omega)
      | (show _ = (⟨12, a, b, c, d, e, f, 0, []⟩ : GOp); simp only [GOp.mk.injEq, true_and, and_true]; omega)
      | (show _ = (⟨13, 0, 0, c, 0, e, 0, g, []⟩ : GOp); simp only [GOp.mk.injEq, true_and, and_true]; omega)
      | (show _ = (⟨14, a, 0, 0, 0, 0, 0, 0, []⟩ : GOp); simp only [GOp.mk.injEq, true_and, and_true]; omega)
      | (show _ = (⟨15, a, 0, 0, 0, 0, 0, 0, []⟩ : GOp); simp only [GOp.mk.injEq, true_and, and_true]; omega)
      | (show _ = (⟨16, a, 0, 0, 0, 0, 0, 0, []⟩ : GOp); simp only [GOp.mk.injEq, true_and, and_true]; omega)
end Go.Pv
