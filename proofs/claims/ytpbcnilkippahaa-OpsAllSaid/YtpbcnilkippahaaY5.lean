import Derived.Test.YtpbcnilkippahaaP65
import Derived.Test.YtpbcnilkippahaaPvAB
set_option linter.unusedSimpArgs false
set_option linter.unusedVariables false
namespace Go.Pv
set_option maxRecDepth 100000
set_option maxHeartbeats 1000000
theorem takeg {α : Type} {a : List α} {k : Nat} (h : k < a.length) : a.take (k + 1) = a.take k ++ [a[k]] := (List.take_append_getElem h).symm
theorem rSame (l m : List GOp) (hl : l.length ≤ 1000) (hf : ∀ o ∈ l, o.Refs.length ≤ 100) {n : Nat} (hn : l.length + 150 < n) : d_ref05_Same n l m = some (decide (l = m)) := by
  unfold d_ref05_Same
  by_cases hlm : l.length = m.length
  · have go : ∀ (d k n : Nat), k + d = l.length → d + 120 < n → l.take k = m.take k → d_ref05_Same_L0 l m n (k : Int) = some (cond (decide (l = m)) (.inl ()) (.inr false)) := by
      intro d
      induction d with
      | zero =>
        intro k n hk hn ht
        obtain ⟨p, rfl⟩ : ∃ p, n = p + 1 := ⟨n - 1, by omega⟩
        rw [d_ref05_Same_L0]
        rw [List.take_of_length_le (by omega), List.take_of_length_le (by omega)] at ht
        rw [decide_eq_true ht]
        exact v_F (by omega) (v_cF rfl)
      | succ d ih =>
        intro k n hk hn ht
        obtain ⟨p, rfl⟩ : ∃ p, n = p + 1 := ⟨n - 1, by omega⟩
        have hx : l[((k : Int)).toNat]? = some l[k] := by simp
        have hy : m[((k : Int)).toNat]? = some m[k] := by simp
        have hr := hf l[k] (List.getElem_mem _)
        have hs := sameR l[k] m[k] (Nat.le_trans hr (by decide)) (n := p) (by omega)
        rw [d_ref05_Same_L0]
        refine v_T (by omega) (v_cT (v_ix (by omega) hx (v_ix (by omega) hy (v_bi hs ?_))))
        by_cases he : l[k] = m[k]
        · rw [decide_eq_true he]
          refine v_nT (v_cF (v_w (by omega) (ih (k + 1) p (by omega) (by omega) ?_)))
          rw [takeg (show k < l.length by omega), takeg (show k < m.length by omega), ht, he]
        · have : l ≠ m := by rintro rfl; exact he rfl
          rw [decide_eq_false this, decide_eq_false he]
          exact v_nF (v_cT rfl)
    refine v_F (by omega) (v_cF (v_bi (go l.length 0 n (by omega) (by omega) (by simp)) ?_))
    cases decide (l = m) <;> rfl
  · have : l ≠ m := by rintro rfl; exact hlm rfl
    rw [decide_eq_false this]
    exact v_T (by omega) (v_cT rfl)
theorem pSame (l m : List GOp) (hl : l.length ≤ 1000) (hf : ∀ o ∈ l, o.Refs.length ≤ 100) {n : Nat} (hn : l.length + 150 < n) : d_ops_Same n l m = some (decide (l = m)) := by
  unfold d_ops_Same
  by_cases hlm : l.length = m.length
  · have go : ∀ (d k n : Nat), k + d = l.length → d + 120 < n → l.take k = m.take k → d_ops_Same_L0 l m n (k : Int) = some (cond (decide (l = m)) (.inl ()) (.inr false)) := by
      intro d
      induction d with
      | zero =>
        intro k n hk hn ht
        obtain ⟨p, rfl⟩ : ∃ p, n = p + 1 := ⟨n - 1, by omega⟩
        rw [d_ops_Same_L0]
        rw [List.take_of_length_le (by omega), List.take_of_length_le (by omega)] at ht
        rw [decide_eq_true ht]
        exact v_F (by omega) (v_cF rfl)
      | succ d ih =>
        intro k n hk hn ht
        obtain ⟨p, rfl⟩ : ∃ p, n = p + 1 := ⟨n - 1, by omega⟩
        have hx : l[((k : Int)).toNat]? = some l[k] := by simp
        have hy : m[((k : Int)).toNat]? = some m[k] := by simp
        have hr := hf l[k] (List.getElem_mem _)
        have hs := sameP l[k] m[k] (Nat.le_trans hr (by decide)) (n := p) (by omega)
        rw [d_ops_Same_L0]
        refine v_T (by omega) (v_cT (v_ix (by omega) hx (v_ix (by omega) hy (v_bi hs ?_))))
        by_cases he : l[k] = m[k]
        · rw [decide_eq_true he]
          refine v_nT (v_cF (v_w (by omega) (ih (k + 1) p (by omega) (by omega) ?_)))
          rw [takeg (show k < l.length by omega), takeg (show k < m.length by omega), ht, he]
        · have : l ≠ m := by rintro rfl; exact he rfl
          rw [decide_eq_false this, decide_eq_false he]
          exact v_nF (v_cT rfl)
    refine v_bi (a := decide (l = m)) (v_F (by omega) (v_cF (v_bi (go l.length 0 n (by omega) (by omega) (by simp)) ?_))) rfl
    cases decide (l = m) <;> rfl
  · have : l ≠ m := by rintro rfl; exact hlm rfl
    rw [decide_eq_false this]
    exact v_bi (v_T (by omega) (v_cT rfl)) rfl
theorem few0 (a : List GOp) : ∀ (d k n : Nat), k + d = 60 → d < n → (∀ j (h : j < a.length), j < k → a[j].Refs.length ≤ 60) →
    ∃ b : Bool, d_law00_FewOps_L0 a n (k : Int) = some (cond b (.inl ()) (.inr false)) ∧ (b = true → ∀ j (h : j < a.length), j < 60 → a[j].Refs.length ≤ 60)
  | _, _, 0, _, hn, _ => by omega
  | 0, k, n + 1, hk, hn, hp => by
    rw [d_law00_FewOps_L0]
    refine ⟨true, v_bi (a := false) ?_ (v_cF rfl), fun _ j h hj => hp j h (by omega)⟩
    by_cases h : (k : Int) < (a.length : Int)
    · exact v_T h (v_cT (v_F (by omega) rfl))
    · exact v_F h (v_cF rfl)
  | d + 1, k, n + 1, hk, hn, hp => by
    rw [d_law00_FewOps_L0]
    by_cases h : k < a.length
    · have hx : a[((k : Int)).toNat]? = some a[k] := by simp [h]
      by_cases hr : a[k].Refs.length > 60
      · exact ⟨false, v_bi (a := true) (v_T (by omega) (v_cT (v_T (by omega) rfl))) (v_cT (v_ix (by omega) hx (v_T (by omega) (v_cT rfl)))), fun h => by cases h⟩
      · obtain ⟨b, h1, h2⟩ := few0 a d (k + 1) n (by omega) (by omega) (fun j hj hjk => by
          by_cases he : j = k
          · subst he; omega
          · exact hp j hj (by omega))
        exact ⟨b, v_bi (a := true) (v_T (by omega) (v_cT (v_T (by omega) rfl))) (v_cT (v_ix (by omega) hx (v_F (by omega) (v_cF (v_w (by omega) h1))))), h2⟩
    · exact ⟨true, v_bi (a := false) (v_F (by omega) (v_cF rfl)) (v_cF rfl), fun _ j hj hj6 => hp j hj (by omega)⟩
theorem few (a : List GOp) {n : Nat} (hn : 61 < n) : ∃ b, d_law00_FewOps n a = some b ∧ (b = true → a.length ≤ 60 ∧ ∀ o ∈ a, o.Refs.length ≤ 60) := by
  obtain ⟨b, h1, h2⟩ := few0 a 60 0 n (by omega) (by omega) (fun j h hj => by omega)
  unfold d_law00_FewOps
  cases b with
  | false => exact ⟨false, v_bi h1 rfl, fun h => by cases h⟩
  | true =>
    refine ⟨decide ((a.length : Int) ≤ 60), v_bi h1 (v_selb rfl), fun h => ?_⟩
    have hl := of_decide_eq_true h
    refine ⟨by omega, fun o ho => ?_⟩
    obtain ⟨j, hj, rfl⟩ := List.getElem_of_mem ho
    exact h2 rfl j hj (by omega)
theorem readG_ok : ∀ (d : Nat) (s : RS) (acc : List GOp), okS s → s.1.length ≤ 1000000 → (∀ o ∈ acc, o.Refs.length ≤ 100) → (readG d s acc).1.length ≤ acc.length + d ∧ ∀ o ∈ (readG d s acc).1, o.Refs.length ≤ 100
  | 0, s, acc, hs, hl, ha => by
    unfold readG
    cases (!s.2 && decide (s.1 = []))
    · exact ⟨Nat.zero_le _, fun o ho => by cases ho⟩
    · exact ⟨Nat.le_refl _, ha⟩
  | d + 1, s, acc, hs, hl, ha => by
    have hq := (rdF_ok (hasM (cntV s 16)) _ (rs_ok (cntV s 16) (okS_cnt hs 16) (Nat.le_trans (cntR_len s 16) hl))).1
    have hrg : readG (d + 1) s acc = cond ((rdOp (cntV s 16) (cntR s 16)).2.2 || !okM (rdOp (cntV s 16) (cntR s 16)).1) ([], 3) (readG d (rdOp (cntV s 16) (cntR s 16)).2 (acc ++ [(rdOp (cntV s 16) (cntR s 16)).1])) := rfl
    rw [hrg]
    cases ((rdOp (cntV s 16) (cntR s 16)).2.2 || !okM (rdOp (cntV s 16) (cntR s 16)).1)
    · have := readG_ok d (rdOp (cntV s 16) (cntR s 16)).2 (acc ++ [(rdOp (cntV s 16) (cntR s 16)).1]) hq.s hq.l (fun o ho => by
        rcases List.mem_append.1 ho with h | h
        · exact ha o h
        · rw [List.mem_singleton.1 h]; exact Nat.le_trans hq.r (by decide))
      rw [List.length_append] at this
      exact ⟨by have h := this.1; simp only [List.length_cons, List.length_nil] at h; show (readG d _ _).1.length ≤ _; omega, this.2⟩
    · exact ⟨Nat.zero_le _, fun o ho => by cases ho⟩
theorem readM_ok {s : List UInt8} (hs : s.length ≤ 131072) : (readM s).1.length ≤ 400 ∧ ∀ o ∈ (readM s).1, o.Refs.length ≤ 100 := by
  have h0 : okS (s, false) := fun h => by cases h
  have h2 := cntV_le (s, false) 400 (by omega)
  have h3 := cntR_len (s, false) 400
  have := readG_ok (cntV (s, false) 400).toNat (cntR (s, false) 400) [] (okS_cnt h0 400) (by dsimp only at h3; omega) (fun o ho => by cases ho)
  exact ⟨by have h := this.1; simp only [List.length_nil] at h; show (readG _ _ _).1.length ≤ _; omega, this.2⟩
theorem aw05 : d_law05_awake 1000 = some true := by decide +kernel
theorem all0 (a : List GOp) (hl : a.length ≤ 60) (hf : ∀ o ∈ a, o.Refs.length ≤ 60) : ∀ (d k n : Nat), k + d = a.length → d + 200 < n → d_law05_OpsAll_L0 a n (k : Int) = some (.inl ())
  | _, _, 0, _, hn => by omega
  | 0, k, n + 1, hk, hn => by rw [d_law05_OpsAll_L0]; exact v_F (by omega) (v_cF rfl)
  | d + 1, k, n + 1, hk, hn => by
    have hkl : k < a.length := by omega
    have hx : a[((k : Int)).toNat]? = some a[k] := by simp [hkl]
    have hr := hf a[k] (List.getElem_mem _)
    have h1 := chkP (n := n) (o := a[k]) (Nat.le_trans hr (by decide)) (by omega)
    have h2 := chkD (n := n) (o := a[k]) (Nat.le_trans hr (by decide)) (by omega)
    rw [d_law05_OpsAll_L0]
    exact v_T (by omega) (v_cT (v_ix (by omega) hx (v_bi h1 (v_ix (by omega) hx (v_bi h2 (v_F (by simp) (v_cF (v_w (by omega) (all0 a hl hf d (k + 1) n (by omega) (by omega))))))))))
theorem opsAll_plain (a b : List GOp) (s : List UInt8) : d_law05_OpsAll 1000 a b s = some true := by
  obtain ⟨x, h1, h2⟩ := few a (n := 1000) (by omega)
  obtain ⟨y, h3, h4⟩ := few b (n := 1000) (by omega)
  unfold d_law05_OpsAll
  cases x with
  | false => exact v_bi (a := true) (v_bi h1 (v_nF (v_cT rfl))) (v_cT (v_bi aw05 rfl))
  | true =>
  cases y with
  | false => exact v_bi (a := true) (v_bi h1 (v_nT (v_cF (v_bi h3 (v_nF (v_cT rfl)))))) (v_cT (v_bi aw05 rfl))
  | true =>
  by_cases hs : (s.length : Int) > 2000
  · exact v_bi (a := true) (v_bi h1 (v_nT (v_cF (v_bi h3 (v_nT (v_cF (v_T hs rfl))))))) (v_cT (v_bi aw05 rfl))
  refine v_bi (a := false) (v_bi h1 (v_nT (v_cF (v_bi h3 (v_nT (v_cF (v_F hs rfl))))))) (v_cF ?_)
  obtain ⟨ha, hb⟩ := h2 rfl
  have hb' : ∀ o ∈ a, o.Refs.length ≤ 100 := fun o ho => Nat.le_trans (hb o ho) (by decide)
  have hok : okAll a := fun o ho => ⟨Nat.le_trans (hb o ho) (by decide), hb' o ho⟩
  have hm := readM_ok (s := s) (by omega)
  refine v_bi (all0 a ha hb a.length 0 1000 (by omega) (by omega)) ?_
  refine v_selb (v_bi (pRead (by omega) (by decide)) (v_bi (rRead (by omega) (by decide)) ?_))
  refine v_bi (a := true) (v_bi (pSame a b (by omega) hb' (by omega)) (v_bi (rSame a b (by omega) hb' (by omega)) (v_T rfl (v_cT (v_bi (pBytes hok (by omega) (by omega)) (v_bi (rBytes hok (by omega) (by omega)) (v_T rfl (v_cT ?_)))))))) rfl
  refine v_bi (rSame _ _ (by omega) hm.2 (by omega)) ?_
  rw [decide_eq_true rfl]
  exact v_cT (v_T rfl (v_cT (v_bi aw05 rfl)))
end Go.Pv
set_option linter.unusedSimpArgs false
set_option linter.unusedVariables false
namespace Go.Pv
open Go.Proofs
set_option maxRecDepth 100000
theorem opn_GOp {H : Type} {enc : TypeId × Value → H} {w : World} {held : Bool} : Opn enc Try.prog w held 28 GOp.av (fun _ => True) := by
  intro fuel cs x h
  have c3 : Try.prog.cellsOf 3 = 1 := by kernel_rfl
  have c26 : Try.prog.cellsOf 26 = 1 := by kernel_rfl
  obtain ⟨hl, hf⟩ := opn_fields Try.underlying28 (N := 9) (by kernel_rfl) h
  have oi : Opn enc Try.prog w held 3 fI isI := opn_int Try.underlying3
  have ol := opn_list Try.underlying26 c3 (by decide) oi
  match cs, hl with
  | [v0, v1, v2, v3, v4, v5, v6, v7, v8], _ =>
    obtain ⟨a0, h0, _⟩ := opn_field (hf 0 _ rfl) oi c3 rfl
    obtain ⟨a1, h1, _⟩ := opn_field (hf 1 _ rfl) oi c3 rfl
    obtain ⟨a2, h2, _⟩ := opn_field (hf 2 _ rfl) oi c3 rfl
    obtain ⟨a3, h3, _⟩ := opn_field (hf 3 _ rfl) oi c3 rfl
    obtain ⟨a4, h4, _⟩ := opn_field (hf 4 _ rfl) oi c3 rfl
    obtain ⟨a5, h5, _⟩ := opn_field (hf 5 _ rfl) oi c3 rfl
    obtain ⟨a6, h6, _⟩ := opn_field (hf 6 _ rfl) oi c3 rfl
    obtain ⟨a7, h7, _⟩ := opn_field (hf 7 _ rfl) oi c3 rfl
    obtain ⟨a8, h8, _⟩ := opn_field (hf 8 _ rfl) ol c26 rfl
    exact ⟨⟨a0, a1, a2, a3, a4, a5, a6, a7, a8⟩, (h0.app (h1.app (h2.app (h3.app (h4.app (h5.app (h6.app (h7.app h8)))))))), trivial⟩
theorem opn_ops {H : Type} {enc : TypeId × Value → H} {w : World} {held : Bool} : Opn enc Try.prog w held 22 (fun l => [lst 9 GOp.av l]) (fun l => l.length ≤ maxLen ∧ ∀ a ∈ l, True) :=
  opn_list Try.underlying22 (by kernel_rfl) (by decide) opn_GOp
theorem opn_sl {H : Type} {enc : TypeId × Value → H} {P : Program} {w : World} {held : Bool} {β : Type} {t e : TypeId} {F : β → AV} {Q : β → Prop} {v : Value} {d : DataW H} {ps : List MemPlace} {base : Nat} (ht : P.underlying t = some (.slice e)) (h : Opn enc P w held t (fun l => [F l]) Q) (hval : Value.okWide P w .any base t v)
    (hd : DataW.Trod enc P w 0 (fun _ => true) held t v d ps) : ∃ a, VR (s0 w) (F a) v ∧ Q a := by
  obtain ⟨a, len, cap, rfl⟩ := Go.WideShapes.okWide_slice ht hval
  obtain ⟨fuel, hf⟩ := hd
  obtain ⟨l, h1, h2⟩ := h _ _ _ hf
  cases h1 with
  | cons h3 _ => exact ⟨l, h3, h2⟩
end Go.Pv
