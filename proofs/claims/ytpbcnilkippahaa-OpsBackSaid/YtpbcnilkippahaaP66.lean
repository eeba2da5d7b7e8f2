import Derived.Test.YtpbcnilkippahaaP64
set_option linter.unusedSimpArgs false
set_option linter.unusedVariables false
namespace Go.Pv
set_option maxRecDepth 100000
set_option maxHeartbeats 1000000
theorem rtail {n : Nat} {q : GOp × RS} {acc : List GOp} (hck : d_ops_Check n q.1 = some (okM q.1)) (hl : acc.length ≤ 1000) :
    ((bnd q.2.2 fun x => cond x (some true) ((d_ops_Check n q.1).bind fun y => bnd (!y) fun z => some z)).bind fun w => cond w (esc (esc (some (([] : List GOp), (3 : Int))))) (bnd (acc ++ [q.1]) fun a => asrt (a.length ≤ 68719476736) <| brk ((⟨q.2.1, q.2.2⟩ : GReader), a)) : Option ((GReader × (List GOp)) ⊕ ((GReader × (List GOp)) ⊕ ((List GOp) × Int)))) =
    some (cond (q.2.2 || !okM q.1) (.inr (.inr (([] : List GOp), (3 : Int)))) (.inl ((⟨q.2.1, q.2.2⟩ : GReader), acc ++ [q.1]))) := by
  rw [hck]
  cases hb : q.2.2 with
  | true => rfl
  | false =>
    cases ho : okM q.1 with
    | false => rfl
    | true =>
      show asrt _ _ = _
      exact v_as (by rw [List.length_append]; simp; omega) rfl
theorem kinds0 {k : Int} (h : 0 ≤ k ∧ k ≤ 16) : k = 0 ∨ k = 1 ∨ k = 2 ∨ k = 3 ∨ k = 4 ∨ k = 5 ∨ k = 6 ∨ k = 7 ∨ k = 8 ∨ k = 9 ∨ k = 10 ∨ k = 11 ∨ k = 12 ∨ k = 13 ∨ k = 14 ∨ k = 15 ∨ k = 16 := by omega
theorem nl {s : RS} (h : s.1.length ≤ 1000000) : (numR s).1.length ≤ 1000000 := Nat.le_trans (numR_len s) h
theorem nl63 {s : RS} (h : s.1.length ≤ 1000000) : s.1.length ≤ 9223372036854775806 := Nat.le_trans h (by decide)
theorem nl40 {s : RS} (h : s.1.length ≤ 1000000) : s.1.length ≤ 1099511627776 := Nat.le_trans h (by decide)
theorem pR1 {x6 i : Int} {n : Nat} {s : RS} {acc : List GOp} (hi : i < x6) (h0 : 0 ≤ i) (h6 : x6 ≤ 400) (hs : okS s) (hl : s.1.length ≤ 1000000) (ha : acc.length ≤ 1000) (hn : 41 ≤ n) :
    d_ops_Read_L0 x6 (n + 1) i ⟨s.1, s.2⟩ acc = cond ((rdOp (cntV s 16) (cntR s 16)).2.2 || !okM (rdOp (cntV s 16) (cntR s 16)).1) (some (.inr ([], 3))) (d_ops_Read_L0 x6 n (i + 1) ⟨(rdOp (cntV s 16) (cntR s 16)).2.1, (rdOp (cntV s 16) (cntR s 16)).2.2⟩ (acc ++ [(rdOp (cntV s 16) (cntR s 16)).1])) := by
  obtain ⟨t, b⟩ := s
  have k1 := cntV_nonneg (t, b) 16
  have k2 := cntV_le (t, b) 16 (by omega)
  have u1 := okS_cnt hs 16
  have u2 := Nat.le_trans (cntR_len (t, b) 16) hl
  have hq := (rdF_ok (hasM (cntV (t, b) 16)) _ (rs_ok (cntV (t, b) 16) u1 u2)).1
  have hck := chkP (n := n) (o := (rdOp (cntV (t, b) 16) (cntR (t, b) 16)).1) (Nat.le_trans hq.r (by decide)) (Nat.lt_of_le_of_lt hq.r (by omega))
  have hfin : ∀ (c : Bool) (g : GReader × List GOp), ((some (cond c (.inr (.inr (([] : List GOp), (3 : Int)))) (.inl g)) : Option ((GReader × (List GOp)) ⊕ ((GReader × (List GOp)) ⊕ ((List GOp) × Int)))).bind <| sel <| p2 fun (y4_2 : GReader) (y4_3 : List GOp) => bnd (w64 (i + 1)) fun x411 => d_ops_Read_L0 x6 n x411 y4_2 y4_3) = cond c (some (.inr ([], 3))) (d_ops_Read_L0 x6 n (i + 1) g.1 g.2) := by
    intro c g
    have hw : w64 (i + 1) = i + 1 := wrap64 (by omega)
    cases c
    · show d_ops_Read_L0 x6 n (w64 (i + 1)) g.1 g.2 = _
      rw [hw]; rfl
    · rfl
  refine Eq.trans ?_ (hfin ((rdOp (cntV (t, b) 16) (cntR (t, b) 16)).2.2 || !okM (rdOp (cntV (t, b) 16) (cntR (t, b) 16)).1) (⟨(rdOp (cntV (t, b) 16) (cntR (t, b) 16)).2.1, (rdOp (cntV (t, b) 16) (cntR (t, b) 16)).2.2⟩, acc ++ [(rdOp (cntV (t, b) 16) (cntR (t, b) 16)).1]))
  have ht := rtail hck ha
  rw [← ht]
  clear hfin hq ht
  rw [d_ops_Read_L0]
  refine v_T hi (v_cT ?_)
  congr 1
  refine v_as (nl63 hl) (v_bnd (v_bnd ?_))
  show (fun x13 => (fun x14 => _) (cntR (t, b) 16)) (cntV (t, b) 16) = _
  generalize cntV (t, b) 16 = k at *
  generalize cntR (t, b) 16 = u at *
  clear hck
  rcases kinds0 ⟨k1, k2⟩ with rfl | rfl | rfl | rfl | rfl | rfl | rfl | rfl | rfl | rfl | rfl | rfl | rfl | rfl | rfl | rfl | rfl
  all_goals
    repeat (first
      | ((with_reducible refine v_as (p := _ ≤ _) ?_ ?_); · (first | (apply nl63; repeat (first | exact u2 | apply nl)) | (apply nl40; repeat (first | exact u2 | apply nl))))
      | ((with_reducible refine v_as ?_ ?_); · (first | rfl | (repeat (first | exact u1 | apply okS_num))))
      | ((with_reducible refine v_T ?_ ?_); · rfl)
      | ((with_reducible refine v_F ?_ ?_); · decide)
      | with_reducible refine v_cT ?_
      | with_reducible refine v_cF ?_
      | with_reducible refine v_bi (a := ()) rfl ?_
      | with_reducible refine v_bnd ?_)
    exact rfl
theorem pR0 (c : Nat) (hc : c ≤ 400) : ∀ (d k n : Nat) (s : RS) (acc : List GOp), k + d = c → d + 60 < n → okS s → s.1.length ≤ 1000000 → acc.length ≤ k →
    ∃ p, d_ops_Read_L0 (c : Int) n (k : Int) ⟨s.1, s.2⟩ acc = some p ∧ (match p with | .inl q => cond (!q.1.bad && decide (q.1.s = [])) (q.2, 0) ([], 3) | .inr e => e) = readG d s acc
  | _, _, 0, _, _, _, hn, _, _, _ => by omega
  | 0, k, n + 1, s, acc, hk, hn, hs, hl, ha => by
    rw [d_ops_Read_L0]
    exact ⟨_, v_F (by omega) (v_cF rfl), rfl⟩
  | d + 1, k, n + 1, s, acc, hk, hn, hs, hl, ha => by
    rw [pR1 (by omega) (by omega) (by omega) hs hl (by omega) (by omega)]
    have hrg : readG (d + 1) s acc = cond ((rdOp (cntV s 16) (cntR s 16)).2.2 || !okM (rdOp (cntV s 16) (cntR s 16)).1) ([], 3) (readG d (rdOp (cntV s 16) (cntR s 16)).2 (acc ++ [(rdOp (cntV s 16) (cntR s 16)).1])) := rfl
    rw [hrg]
    have hq := (rdF_ok (hasM (cntV s 16)) _ (rs_ok (cntV s 16) (okS_cnt hs 16) (Nat.le_trans (cntR_len s 16) hl))).1
    cases ((rdOp (cntV s 16) (cntR s 16)).2.2 || !okM (rdOp (cntV s 16) (cntR s 16)).1)
    · have ih := pR0 c hc d (k + 1) n (rdOp (cntV s 16) (cntR s 16)).2 (acc ++ [(rdOp (cntV s 16) (cntR s 16)).1]) (by omega) (by omega) hq.s hq.l (by rw [List.length_append]; simp; omega)
      exact ih
    · exact ⟨_, rfl, rfl⟩
theorem pRead {s : List UInt8} (hs : s.length ≤ 131072) {n : Nat} (hn : 601 ≤ n) : d_ops_Read n s = some (readM s) := by
  unfold d_ops_Read
  have h0 : okS (s, false) := fun h => by cases h
  have h1 := cntV_nonneg (s, false) 400
  have h2 := cntV_le (s, false) 400 (by omega)
  have h3 := cntR_len (s, false) 400
  have hgo := pR0 (cntV (s, false) 400).toNat (by omega) (cntV (s, false) 400).toNat 0 n (cntR (s, false) 400) [] (by omega) (by omega) (okS_cnt h0 400) (by dsimp only at h3; omega) (by simp)
  rw [Int.toNat_of_nonneg h1] at hgo
  obtain ⟨p, hp, he⟩ := hgo
  show _ = some (readG _ _ _)
  rw [← he]
  refine v_F (by omega) (v_as rfl (v_bi (a := ()) rfl (v_as (by show s.length ≤ _; omega) (v_bnd (v_bnd (v_bi hp ?_))))))
  cases p with
  | inr e => rfl
  | inl q =>
    obtain ⟨⟨S, B⟩, l⟩ := q
    refine v_selb (v_p2 ?_)
    cases B
    · cases S with
      | nil => rfl
      | cons c S =>
        refine v_bi (a := true) (v_bnd (v_cF (v_T (by simp) rfl))) ?_
        rfl
    · rfl
end Go.Pv
set_option linter.unusedSimpArgs false
set_option linter.unusedVariables false
namespace Go.Pv
set_option maxRecDepth 100000
set_option maxHeartbeats 1000000
theorem takeg {α : Type} {a : List α} {k : Nat} (h : k < a.length) : a.take (k + 1) = a.take k ++ [a[k]] := (List.take_append_getElem h).symm
theorem rSame (l m : List GOp) (hl : l.length ≤ 1000) (hf : ∀ o ∈ l, o.Refs.length ≤ 100) {n : Nat} (hn : l.length + 150 < n) : d_ref05_Same n l m = some (decide (l = m)) := by
  unfold d_ref05_Same
  by_cases hlm : l.length = m.length
  · have go : ∀ (d k n : Nat), k + d = l.length → d + 120 < n → l.take k = m.take k → d_ref05_Same_L0 l m n (k : Int) = some (cond (decide (l = m)) (.inl ()) (.inr false)) := by
      intro d
      induction d with
      | zero =>
        intro k n hk hn ht
        obtain ⟨p, rfl⟩ : ∃ p, n = p + 1 := ⟨n - 1, by omega⟩
        rw [d_ref05_Same_L0]
        rw [List.take_of_length_le (by omega), List.take_of_length_le (by omega)] at ht
        rw [decide_eq_true ht]
        exact v_F (by omega) (v_cF rfl)
      | succ d ih =>
        intro k n hk hn ht
        obtain ⟨p, rfl⟩ : ∃ p, n = p + 1 := ⟨n - 1, by omega⟩
        have hx : l[((k : Int)).toNat]? = some l[k] := by simp
        have hy : m[((k : Int)).toNat]? = some m[k] := by simp
        have hr := hf l[k] (List.getElem_mem _)
        have hs := sameR l[k] m[k] (Nat.le_trans hr (by decide)) (n := p) (by omega)
        rw [d_ref05_Same_L0]
        refine v_T (by omega) (v_cT (v_ix (by omega) hx (v_ix (by omega) hy (v_bi hs ?_))))
        by_cases he : l[k] = m[k]
        · rw [decide_eq_true he]
          refine v_nT (v_cF (v_w (by omega) (ih (k + 1) p (by omega) (by omega) ?_)))
          rw [takeg (show k < l.length by omega), takeg (show k < m.length by omega), ht, he]
        · have : l ≠ m := by rintro rfl; exact he rfl
          rw [decide_eq_false this, decide_eq_false he]
          exact v_nF (v_cT rfl)
    refine v_F (by omega) (v_cF (v_bi (go l.length 0 n (by omega) (by omega) (by simp)) ?_))
    cases decide (l = m) <;> rfl
  · have : l ≠ m := by rintro rfl; exact hlm rfl
    rw [decide_eq_false this]
    exact v_T (by omega) (v_cT rfl)
theorem few0 (a : List GOp) : ∀ (d k n : Nat), k + d = 60 → d < n → (∀ j (h : j < a.length), j < k → a[j].Refs.length ≤ 60) →
    ∃ b : Bool, d_law00_FewOps_L0 a n (k : Int) = some (cond b (.inl ()) (.inr false)) ∧ (b = true → ∀ j (h : j < a.length), j < 60 → a[j].Refs.length ≤ 60)
  | _, _, 0, _, hn, _ => by omega
  | 0, k, n + 1, hk, hn, hp => by
    rw [d_law00_FewOps_L0]
    refine ⟨true, v_bi (a := false) ?_ (v_cF rfl), fun _ j h hj => hp j h (by omega)⟩
    by_cases h : (k : Int) < (a.length : Int)
    · exact v_T h (v_cT (v_F (by omega) rfl))
    · exact v_F h (v_cF rfl)
  | d + 1, k, n + 1, hk, hn, hp => by
    rw [d_law00_FewOps_L0]
    by_cases h : k < a.length
    · have hx : a[((k : Int)).toNat]? = some a[k] := by simp [h]
      by_cases hr : a[k].Refs.length > 60
      · exact ⟨false, v_bi (a := true) (v_T (by omega) (v_cT (v_T (by omega) rfl))) (v_cT (v_ix (by omega) hx (v_T (by omega) (v_cT rfl)))), fun h => by cases h⟩
      · obtain ⟨b, h1, h2⟩ := few0 a d (k + 1) n (by omega) (by omega) (fun j hj hjk => by
          by_cases he : j = k
          · subst he; omega
          · exact hp j hj (by omega))
        exact ⟨b, v_bi (a := true) (v_T (by omega) (v_cT (v_T (by omega) rfl))) (v_cT (v_ix (by omega) hx (v_F (by omega) (v_cF (v_w (by omega) h1))))), h2⟩
    · exact ⟨true, v_bi (a := false) (v_F (by omega) (v_cF rfl)) (v_cF rfl), fun _ j hj hj6 => hp j hj (by omega)⟩
theorem few (a : List GOp) {n : Nat} (hn : 61 < n) : ∃ b, d_law00_FewOps n a = some b ∧ (b = true → a.length ≤ 60 ∧ ∀ o ∈ a, o.Refs.length ≤ 60) := by
  obtain ⟨b, h1, h2⟩ := few0 a 60 0 n (by omega) (by omega) (fun j h hj => by omega)
  unfold d_law00_FewOps
  cases b with
  | false => exact ⟨false, v_bi h1 rfl, fun h => by cases h⟩
  | true =>
    refine ⟨decide ((a.length : Int) ≤ 60), v_bi h1 (v_selb rfl), fun h => ?_⟩
    have hl := of_decide_eq_true h
    refine ⟨by omega, fun o ho => ?_⟩
    obtain ⟨j, hj, rfl⟩ := List.getElem_of_mem ho
    exact h2 rfl j hj (by omega)
theorem aw05 : d_law05_awake 1000 = some true := by decide +kernel
end Go.Pv
