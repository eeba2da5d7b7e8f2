/- ops: Read: the document's. -/
import Derived.Test.YtpbcnilkippahaaP63
set_option linter.unusedSimpArgs false
set_option linter.unusedVariables false
namespace Go.Pv
set_option maxRecDepth 100000
set_option maxHeartbeats 1000000
def fldR (c : UInt8) (p : GOp × RS) : GOp × RS :=
  if c = 101 then ({ p.1 with E := numV p.2 }, numR p.2) else
  if c = 105 then ({ p.1 with Item := numV p.2 }, numR p.2) else
  if c = 108 then ({ p.1 with Loc := numV p.2 }, numR p.2) else
  if c = 116 then ({ p.1 with To := numV p.2 }, numR p.2) else
  if c = 113 then ({ p.1 with Qty := numV p.2 }, numR p.2) else
  if c = 97 then ({ p.1 with Amount := numV p.2 }, numR p.2) else
  if c = 114 then ({ p.1 with Ref := numV p.2 }, numR p.2) else
  ({ p.1 with Refs := lstV p.2 40 }, lstR p.2 40)
def rdF (h : List UInt8) (p : GOp × RS) : GOp × RS := h.foldl (fun p c => fldR c p) p
def rdOp (k : Int) (s : RS) : GOp × RS := rdF (hasM k) (⟨k, 0, 0, 0, 0, 0, 0, 0, []⟩, s)
structure RsOk (p : GOp × RS) : Prop where
  s : okS p.2
  l : p.2.1.length ≤ 1000000
  r : p.1.Refs.length ≤ 40
theorem lst40 (s : RS) : (lstV s 40).length ≤ 40 := by
  unfold lstV; split
  · exact Nat.zero_le _
  · rw [nums_len]; have := cntV_le s 40 (by omega); omega
theorem fldR_ok {p : GOp × RS} (h : RsOk p) (c : UInt8) : RsOk (fldR c p) ∧ (fldR c p).2.1.length ≤ p.2.1.length ∧ (fldR c p).1.Kind = p.1.Kind := by
  have h1 := numR_len p.2
  have h2 := lstR_len p.2 40
  have h3 := h.l
  unfold fldR
  repeat' split
  all_goals first | exact ⟨⟨okS_num h.s, Nat.le_trans h1 h3, h.r⟩, h1, rfl⟩ | exact ⟨⟨okS_lst h.s 40, Nat.le_trans h2 h3, lst40 _⟩, h2, rfl⟩
theorem rdF_ok : ∀ (h : List UInt8) (p : GOp × RS), RsOk p → RsOk (rdF h p) ∧ (rdF h p).2.1.length ≤ p.2.1.length ∧ (rdF h p).1.Kind = p.1.Kind
  | [], p, hp => ⟨hp, Nat.le_refl _, rfl⟩
  | c :: h, p, hp => by
    obtain ⟨h1, h2, h3⟩ := fldR_ok hp c
    obtain ⟨h4, h5, h6⟩ := rdF_ok h _ h1
    exact ⟨h4, Nat.le_trans h5 h2, h6.trans h3⟩
theorem rR1 (hl : List UInt8) (hll : hl.length ≤ 100) : ∀ (d k n : Nat) (p : GOp × RS), k + d = hl.length → d < n → RsOk p →
    d_ref05_Read_L1 hl n (k : Int) ⟨p.2.1, p.2.2⟩ p.1 = some (⟨(rdF (hl.drop k) p).2.1, (rdF (hl.drop k) p).2.2⟩, (rdF (hl.drop k) p).1)
  | _, _, 0, _, _, hn, _ => by omega
  | 0, k, n + 1, p, hk, hn, hp => by
    rw [d_ref05_Read_L1, List.drop_of_length_le (by omega)]
    exact v_F (by omega) (v_cF rfl)
  | d + 1, k, n + 1, p, hk, hn, hp => by
    have hkl : k < hl.length := by omega
    have hc : hl[((k : Int)).toNat]? = some hl[k] := by simp [hkl]
    have ih := fun p' h => rR1 hl hll d (k + 1) n p' (by omega) (by omega) h
    rw [d_ref05_Read_L1, List.drop_eq_getElem_cons hkl]
    generalize hl[k] = c at *
    have hl1 := hp.l
    have hfl := (fldR_ok hp c).1
    have ih := ih _ hfl
    show _ = some ((⟨(rdF (hl.drop (k + 1)) (fldR c p)).2.1, (rdF (hl.drop (k + 1)) (fldR c p)).2.2⟩ : GR), (rdF (hl.drop (k + 1)) (fldR c p)).1)
    refine v_T (by omega) (v_cT (v_bi (a := ((⟨(fldR c p).2.1, (fldR c p).2.2⟩ : GR), (fldR c p).1)) ?_ (v_p2 (v_w (by omega) ih))))
    clear ih hfl
    obtain ⟨o, t, b⟩ := p
    refine v_ix (by omega) hc ?_
    unfold fldR
    by_cases h : c = 101
    · rw [if_pos h]; exact v_T (u8eq h) (v_cT (v_as (by show t.length ≤ _; dsimp only at hl1; omega) (v_bnd (v_bnd rfl))))
    refine v_F (u8ne h) (v_cF ?_); rw [if_neg h]
    by_cases h : c = 105
    · rw [if_pos h]; exact v_T (u8eq h) (v_cT (v_as (by show t.length ≤ _; dsimp only at hl1; omega) (v_bnd (v_bnd rfl))))
    refine v_F (u8ne h) (v_cF ?_); rw [if_neg h]
    by_cases h : c = 108
    · rw [if_pos h]; exact v_T (u8eq h) (v_cT (v_as (by show t.length ≤ _; dsimp only at hl1; omega) (v_bnd (v_bnd rfl))))
    refine v_F (u8ne h) (v_cF ?_); rw [if_neg h]
    by_cases h : c = 116
    · rw [if_pos h]; exact v_T (u8eq h) (v_cT (v_as (by show t.length ≤ _; dsimp only at hl1; omega) (v_bnd (v_bnd rfl))))
    refine v_F (u8ne h) (v_cF ?_); rw [if_neg h]
    by_cases h : c = 113
    · rw [if_pos h]; exact v_T (u8eq h) (v_cT (v_as (by show t.length ≤ _; dsimp only at hl1; omega) (v_bnd (v_bnd rfl))))
    refine v_F (u8ne h) (v_cF ?_); rw [if_neg h]
    by_cases h : c = 97
    · rw [if_pos h]; exact v_T (u8eq h) (v_cT (v_as (by show t.length ≤ _; dsimp only at hl1; omega) (v_bnd (v_bnd rfl))))
    refine v_F (u8ne h) (v_cF ?_); rw [if_neg h]
    by_cases h : c = 114
    · rw [if_pos h]; exact v_T (u8eq h) (v_cT (v_as (by show t.length ≤ _; dsimp only at hl1; omega) (v_bnd (v_bnd rfl))))
    refine v_F (u8ne h) (v_cF ?_); rw [if_neg h]
    exact v_as (by show t.length ≤ _; dsimp only at hl1; omega) (v_as hp.s (v_bnd (v_bnd rfl)))
def readG : Nat → RS → List GOp → List GOp × Int
  | 0, s, acc => cond (!s.2 && decide (s.1 = [])) (acc, 0) ([], 3)
  | n + 1, s, acc => cond ((rdOp (cntV s 16) (cntR s 16)).2.2 || !okM (rdOp (cntV s 16) (cntR s 16)).1) ([], 3) (readG n (rdOp (cntV s 16) (cntR s 16)).2 (acc ++ [(rdOp (cntV s 16) (cntR s 16)).1]))
def readM (s : List UInt8) : List GOp × Int := readG (cntV (s, false) 400).toNat (cntR (s, false) 400) []
theorem rs_ok {s : RS} (k : Int) (h : okS s) (hl : s.1.length ≤ 1000000) : RsOk ((⟨k, 0, 0, 0, 0, 0, 0, 0, []⟩ : GOp), s) := ⟨h, hl, by simp⟩
theorem okM_k {o : GOp} (hf : fewR o) (h : okM o = true) : 1 ≤ o.Kind ∧ o.Kind ≤ 16 := (okM_f hf h).k
theorem cnt_in {s : RS} (h : ¬ (numV s < 0 ∨ 16 < numV s)) : cntV s 16 = numV s ∧ cntR s 16 = numR s := by unfold cntV cntR; rw [if_neg h, if_neg h]; exact ⟨rfl, rfl⟩
theorem cnt_out {s : RS} (h : numV s < 0 ∨ 16 < numV s) : cntV s 16 = 0 ∧ cntR s 16 = ([], true) := by unfold cntV cntR; rw [if_pos h, if_pos h]; exact ⟨rfl, rfl⟩
theorem rR0e (x6 : Int) (n : Nat) (i : Int) (t : List UInt8) (acc : List GOp) : d_ref05_Read_L0 x6 (n + 1) i ⟨t, true⟩ acc = some (⟨t, true⟩, acc) := by
  rw [d_ref05_Read_L0]
  by_cases h : i < x6
  · exact v_bi (a := false) (v_T h (v_cT (v_bnd rfl))) (v_cF rfl)
  · exact v_bi (a := false) (v_F h (v_cF rfl)) (v_cF rfl)
def finR (p : GR × List GOp) : List GOp × Int := cond (!p.1.Bad && decide (p.1.S = [])) (p.2, 0) ([], 3)
theorem rR0 (c : Nat) (hc : c ≤ 400) : ∀ (d k n : Nat) (s : RS) (acc : List GOp), k + d = c → d + 200 < n → okS s → s.2 = false → s.1.length ≤ 1000000 → acc.length ≤ k →
    ∃ p, d_ref05_Read_L0 (c : Int) n (k : Int) ⟨s.1, s.2⟩ acc = some p ∧ finR p = readG d s acc
  | _, _, 0, _, _, _, hn, _, _, _, _ => by omega
  | 0, k, n + 1, s, acc, hk, hn, hs, hb, hl, ha => by
    rw [d_ref05_Read_L0]
    exact ⟨_, v_bi (a := false) (v_F (by omega) (v_cF rfl)) (v_cF rfl), rfl⟩
  | d + 1, k, n + 1, s, acc, hk, hn, hs, hb, hl, ha => by
    obtain ⟨t, b⟩ := s
    obtain rfl : b = false := hb
    have hp := rs_ok (numV (t, false)) (okS_num hs) (Nat.le_trans (numR_len _) hl)
    have h6 := hasM_len (numV (t, false))
    have hb1 := rR1 (hasM (numV (t, false))) (by omega) (hasM (numV (t, false))).length 0 n _ (by omega) (by omega) hp
    obtain ⟨hq, hq2, hq3⟩ := rdF_ok (hasM (numV (t, false))) _ hp
    rw [List.drop_zero] at hb1
    have hq4 : (rdF (hasM (numV (t, false))) ((⟨numV (t, false), 0, 0, 0, 0, 0, 0, 0, []⟩ : GOp), numR (t, false))).1.Kind = numV (t, false) := hq3
    rw [show rdF (hasM (numV (t, false))) ((⟨numV (t, false), 0, 0, 0, 0, 0, 0, 0, []⟩ : GOp), numR (t, false)) = rdOp (numV (t, false)) (numR (t, false)) from rfl] at hq hq2 hb1 hq4
    have hck := chkD (n := n) (o := (rdOp (numV (t, false)) (numR (t, false))).1) (Nat.le_trans hq.r (by decide)) (by have := hq.r; omega)
    rw [d_ref05_Read_L0]
    have hround : ∀ (w : GR × List GOp) (bb : Bool), okM (rdOp (numV (t, false)) (numR (t, false))).1 = bb →
        d_ref05_Read_L0 (c : Int) n ((k : Int) + 1) (cond bb ⟨(rdOp (numV (t, false)) (numR (t, false))).2.1, (rdOp (numV (t, false)) (numR (t, false))).2.2⟩ ⟨[], true⟩) (acc ++ [(rdOp (numV (t, false)) (numR (t, false))).1]) = some w → d_ref05_Read_L0 (c : Int) (n + 1) (k : Int) ⟨t, false⟩ acc = some w := by
      intro w bb hbb hw
      rw [d_ref05_Read_L0]
      refine v_bi (a := true) (v_T (by omega) (v_cT (v_bnd rfl))) (v_cT ?_)
      rw [hbb] at hck
      refine v_bi (a := ((rdOp (numV (t, false)) (numR (t, false))).1, cond bb ⟨(rdOp (numV (t, false)) (numR (t, false))).2.1, (rdOp (numV (t, false)) (numR (t, false))).2.2⟩ ⟨[], true⟩)) ?_ ?_
      · refine v_as (by show t.length ≤ _; dsimp only at hl; omega) (v_bnd (v_bnd (v_bi (hasE _) (v_bi hb1 (v_p2 (v_bi hck ?_))))))
        cases bb <;> rfl
      · refine v_p2 (v_bnd (v_as (by rw [List.length_append]; simp; omega) (v_w (by omega) hw)))
    rw [d_ref05_Read_L0] at hround
    have hrg : readG (d + 1) (t, false) acc = cond ((rdOp (cntV (t, false) 16) (cntR (t, false) 16)).2.2 || !okM (rdOp (cntV (t, false) 16) (cntR (t, false) 16)).1) ([], 3) (readG d (rdOp (cntV (t, false) 16) (cntR (t, false) 16)).2 (acc ++ [(rdOp (cntV (t, false) 16) (cntR (t, false) 16)).1])) := rfl
    by_cases ho : numV (t, false) < 0 ∨ 16 < numV (t, false)
    · have hno : okM (rdOp (numV (t, false)) (numR (t, false))).1 = false := by
        cases hx : okM (rdOp (numV (t, false)) (numR (t, false))).1 with
        | false => rfl
        | true => have := okM_k (Nat.le_trans hq.r (by decide)) hx; rw [hq4] at this; omega
      rw [hrg, (cnt_out ho).1, (cnt_out ho).2]
      obtain ⟨m, rfl⟩ : ∃ m, n = m + 1 := ⟨n - 1, by omega⟩
      exact ⟨_, hround _ false hno (rR0e _ _ _ _ _), rfl⟩
    · rw [hrg, (cnt_in ho).1, (cnt_in ho).2]
      obtain ⟨m, rfl⟩ : ∃ m, n = m + 1 := ⟨n - 1, by omega⟩
      cases hx : okM (rdOp (numV (t, false)) (numR (t, false))).1 with
      | false =>
        refine ⟨_, hround _ false hx (rR0e _ _ _ _ _), ?_⟩
        rw [Bool.not_false, Bool.or_true]; rfl
      | true =>
        cases hy : (rdOp (numV (t, false)) (numR (t, false))).2.2 with
        | true =>
          refine ⟨_, hround _ true hx (by rw [hy]; exact rR0e _ _ _ _ _), ?_⟩
          rfl
        | false =>
          obtain ⟨p, hp1, hp2⟩ := rR0 c hc d (k + 1) (m + 1) (rdOp (numV (t, false)) (numR (t, false))).2 (acc ++ [(rdOp (numV (t, false)) (numR (t, false))).1]) (by omega) (by omega) hq.s hy hq.l (by rw [List.length_append]; simp; omega)
          exact ⟨p, hround p true hx hp1, hp2⟩
theorem rRead {s : List UInt8} (hs : s.length ≤ 131072) {n : Nat} (hn : 601 ≤ n) : d_ref05_Read n s = some (readM s) := by
  unfold d_ref05_Read
  have h0 : okS (s, false) := fun h => by cases h
  have h1 := cntV_nonneg (s, false) 400
  have h2 := cntV_le (s, false) 400 (by omega)
  have h3 := cntR_len (s, false) 400
  obtain ⟨m, rfl⟩ : ∃ m, n = m + 1 := ⟨n - 1, by omega⟩
  have hgo : ∃ p, d_ref05_Read_L0 (cntV (s, false) 400) (m + 1) 0 ⟨(cntR (s, false) 400).1, (cntR (s, false) 400).2⟩ [] = some p ∧ finR p = readM s := by
    cases hb : (cntR (s, false) 400).2 with
    | true =>
      refine ⟨_, rR0e _ _ _ _ _, ?_⟩
      have : cntV (s, false) 400 = 0 := cnt_bad h0 hb
      unfold readM; rw [this]
      show finR _ = readG 0 _ _
      unfold finR readG; rw [hb]
    | false =>
      have := rR0 (cntV (s, false) 400).toNat (by omega) (cntV (s, false) 400).toNat 0 (m + 1) (cntR (s, false) 400) [] (by omega) (by omega) (okS_cnt h0 400) hb (by dsimp only at h3; omega) (by simp)
      rw [Int.toNat_of_nonneg h1, hb] at this
      exact this
  obtain ⟨⟨⟨S, B⟩, l⟩, hp, he⟩ := hgo
  rw [← he]
  refine v_F (by omega) (v_as rfl (v_as (by show s.length ≤ _; omega) (v_as h0 (v_bnd (v_bnd (v_bi hp ?_))))))
  refine v_p2 ?_
  cases B
  · by_cases hS : S = []
    · rw [hS]; rfl
    · refine v_bi (a := false) (v_bi (a := false) (v_bnd (v_cT (v_F hS rfl))) rfl) ?_
      show some _ = some _
      unfold finR; rw [decide_eq_false hS]; rfl
  · rfl
end Go.Pv
