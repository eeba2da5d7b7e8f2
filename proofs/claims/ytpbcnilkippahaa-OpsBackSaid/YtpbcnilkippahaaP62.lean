/- ops: Bytes: in both texts the same. -/
import Derived.Test.YtpbcnilkippahaaP61
set_option linter.unusedSimpArgs false
set_option linter.unusedVariables false
namespace Go.Pv
set_option maxRecDepth 100000
set_option maxHeartbeats 1000000
def vaM (o : GOp) (c : UInt8) : Int :=
  if c = 101 then o.E else if c = 105 then o.Item else if c = 108 then o.Loc else if c = 116 then o.To else if c = 113 then o.Qty else if c = 97 then o.Amount else o.Ref
def fOp (o : GOp) (c : UInt8) : List UInt8 := if c = 115 then encL o.Refs else enc (vaM o c)
def opB (o : GOp) : List UInt8 := enc o.Kind ++ (hasM o.Kind).flatMap (fOp o)
theorem u8ne {c k : UInt8} (h : c ≠ k) : ¬ ((c.toNat : Int) = (k.toNat : Int)) := fun e => h (UInt8.toNat_inj.1 (by omega))
theorem u8eq {c k : UInt8} (h : c = k) : (c.toNat : Int) = (k.toNat : Int) := by rw [h]
theorem valE (o : GOp) (c : UInt8) : d_ref05_value o (c.toNat : Int) = some (vaM o c) := by
  unfold d_ref05_value vaM
  by_cases h : c = 101
  · rw [if_pos h]; exact v_T (u8eq h) (v_cT rfl)
  refine v_F (u8ne h) (v_cF ?_); rw [if_neg h]
  by_cases h : c = 105
  · rw [if_pos h]; exact v_T (u8eq h) (v_cT rfl)
  refine v_F (u8ne h) (v_cF ?_); rw [if_neg h]
  by_cases h : c = 108
  · rw [if_pos h]; exact v_T (u8eq h) (v_cT rfl)
  refine v_F (u8ne h) (v_cF ?_); rw [if_neg h]
  by_cases h : c = 116
  · rw [if_pos h]; exact v_T (u8eq h) (v_cT rfl)
  refine v_F (u8ne h) (v_cF ?_); rw [if_neg h]
  by_cases h : c = 113
  · rw [if_pos h]; exact v_T (u8eq h) (v_cT rfl)
  refine v_F (u8ne h) (v_cF ?_); rw [if_neg h]
  by_cases h : c = 97
  · rw [if_pos h]; exact v_T (u8eq h) (v_cT rfl)
  refine v_F (u8ne h) (v_cF ?_); rw [if_neg h]
theorem numD_e {v : Int} (h : isI v) : numD v = some (enc v) := v_as h rfl
theorem numRD_e {v : Int} (h : isI v) : numRD v = some (enc v) := v_as h rfl
theorem listD_e {l : List Int} (h : ∀ x ∈ l, isI x) (hl : l.length ≤ 1000000) : listD l = some (encL l) := v_as ⟨h, by omega⟩ rfl
theorem flat_at {l : List Int} {k : Nat} (h : k < l.length) : (l.drop k).flatMap enc = enc l[k] ++ (l.drop (k + 1)).flatMap enc := flat_drop h
theorem rlist0 (l : List Int) (hv : ∀ x ∈ l, isI x) (hl : l.length ≤ 1000000) : ∀ (d k n : Nat) (s : List UInt8), k + d = l.length → d < n → s.length + 11 * d ≤ 1000000000000 →
    d_ref03_List_L0 l n s (k : Int) = some (s ++ (l.drop k).flatMap enc)
  | _, _, 0, _, _, hn, _ => by omega
  | 0, k, n + 1, s, hk, hn, hs => by
    rw [d_ref03_List_L0, List.drop_of_length_le (by omega)]
    exact v_F (by omega) (v_cF (by simp))
  | d + 1, k, n + 1, s, hk, hn, hs => by
    have hkl : k < l.length := by omega
    have hx : l[((k : Int)).toNat]? = some l[k] := by simp [hkl]
    have hi : isI l[k] := hv _ (List.getElem_mem hkl)
    have he := enc_len l[k]
    rw [d_ref03_List_L0, flat_at hkl, ← List.append_assoc]
    refine v_T (by omega) (v_cT (v_ix (by omega) hx (v_bi (numRD_e hi) (v_as (by omega) (v_bnd (v_w (by omega) ?_))))))
    exact rlist0 l hv hl d (k + 1) n _ (by omega) (by omega) (by rw [List.length_append]; omega)
theorem rlist {l : List Int} (hv : ∀ x ∈ l, isI x) (hl : l.length ≤ 1000000) {n : Nat} (hn : l.length < n) : d_ref03_List n l = some (encL l) := by
  have he := enc_len (l.length : Int)
  unfold d_ref03_List
  refine v_bi (numRD_e (isI_len (by omega))) (v_bi (rlist0 l hv hl l.length 0 n _ (by omega) hn (by omega)) ?_)
  rfl
theorem isI_of {v : Int} (h : 0 ≤ v) (h2 : v ≤ 1125899906842624) : isI v := ⟨by omega, by omega⟩
theorem Fits.v {o : GOp} (h : Fits o) (c : UInt8) : isI (vaM o c) := by
  have ha := h.a; have hb := h.b; have hc := h.c; have hd := h.d; have he := h.e; have hf := h.f; have hg := h.g
  unfold vaM isI
  repeat' split
  all_goals omega
theorem Fits.r {o : GOp} (h : Fits o) : ∀ x ∈ o.Refs, isI x := fun x hx => by
  have := h.m x hx; exact ⟨by omega, by omega⟩
theorem fB_len {o : GOp} (h : Fits o) (c : UInt8) : (fOp o c).length ≤ 500 := by
  unfold fOp; split
  · have := encL_len o.Refs; have := h.l; omega
  · have := enc_len (vaM o c); omega
theorem rB1 {a1 : List GOp} {i : Int} {o : GOp} (h0 : 0 ≤ i) (hx : a1[i.toNat]? = some o) (hf : Fits o) (hl : List UInt8) (hll : hl.length ≤ 100) : ∀ (d k n : Nat) (s : List UInt8), k + d = hl.length → d + 41 < n → s.length + 500 * d ≤ 1000000000000 →
    d_ref05_Bytes_L1 a1 i hl n s (k : Int) = some (s ++ (hl.drop k).flatMap (fOp o))
  | _, _, 0, _, _, hn, _ => by omega
  | 0, k, n + 1, s, hk, hn, hs => by
    rw [d_ref05_Bytes_L1, List.drop_of_length_le (by omega)]
    exact v_F (by omega) (v_cF (by simp))
  | d + 1, k, n + 1, s, hk, hn, hs => by
    have hkl : k < hl.length := by omega
    have hc : hl[((k : Int)).toNat]? = some hl[k] := by simp [hkl]
    have he := fB_len hf hl[k]
    have ih := fun s' h => rB1 h0 hx hf hl hll d (k + 1) n s' (by omega) (by omega) h
    rw [d_ref05_Bytes_L1, List.drop_eq_getElem_cons hkl, List.flatMap_cons, ← List.append_assoc]
    have hr := hf.l
    generalize hl[k] = c at *
    refine v_T (by omega) (v_cT (v_bi (a := s ++ fOp o c) ?_ (v_w (by omega) ?_)))
    · refine v_ix (by omega) hc ?_
      unfold fOp at he ⊢
      by_cases h : c = 115
      · rw [if_pos h] at he ⊢
        exact v_T (u8eq h) (v_cT (v_ix h0 hx (v_bi (rlist hf.r (by omega) (by omega)) (v_as (by omega) (v_bnd rfl)))))
      · rw [if_neg h] at he ⊢
        exact v_F (u8ne h) (v_cF (v_ix h0 hx (v_ix (by omega) hc (v_bi (valE o c) (v_bi (numRD_e (hf.v c)) (v_as (by omega) (v_bnd rfl)))))))
    · exact ih _ (by rw [List.length_append]; omega)
theorem hasM_len (k : Int) : (hasM k).length ≤ 6 := by
  unfold hasM; repeat' split
  all_goals simp
theorem flat_le (h : List UInt8) {o : GOp} (hf : Fits o) : (h.flatMap (fOp o)).length ≤ 500 * h.length := by
  induction h with
  | nil => simp
  | cons c h ih => have := fB_len hf c; rw [List.flatMap_cons, List.length_append, List.length_cons]; omega
theorem opB_len {o : GOp} (hf : Fits o) : (opB o).length ≤ 3011 := by
  have h1 := flat_le (hasM o.Kind) hf; have h2 := hasM_len o.Kind; have h3 := enc_len o.Kind
  unfold opB; rw [List.length_append]; omega
def bodyM : List GOp → List UInt8 → Option (List UInt8)
  | [], s => some s
  | o :: r, s => cond (okM o) (bodyM r (s ++ opB o)) none
def bytesM (l : List GOp) : List UInt8 := (bodyM l (enc l.length)).getD []
def okAll (l : List GOp) : Prop := ∀ o ∈ l, fewR o ∧ o.Refs.length ≤ 100
theorem rB0 {a1 : List GOp} (ha : okAll a1) (hl : a1.length ≤ 1000) : ∀ (d k n : Nat) (s : List UInt8), k + d = a1.length → d + 250 < n → s.length + 3011 * d ≤ 1000000000 →
    d_ref05_Bytes_L0 a1 n s (k : Int) = some (match bodyM (a1.drop k) s with | some t => .inl t | none => .inr [])
  | _, _, 0, _, _, hn, _ => by omega
  | 0, k, n + 1, s, hk, hn, hs => by
    rw [d_ref05_Bytes_L0, List.drop_of_length_le (by omega)]
    exact v_F (by omega) (v_cF rfl)
  | d + 1, k, n + 1, s, hk, hn, hs => by
    have hkl : k < a1.length := by omega
    have hx : a1[((k : Int)).toNat]? = some a1[k] := by simp [hkl]
    have ho := ha _ (List.getElem_mem hkl)
    have ih := fun s' h => rB0 ha hl d (k + 1) n s' (by omega) (by omega) h
    rw [d_ref05_Bytes_L0, List.drop_eq_getElem_cons hkl]
    generalize a1[k] = o at *
    have hck := chkD (n := n) ho.1 (by omega)
    refine v_T (by omega) (v_cT ?_)
    simp only [bodyM]
    cases hk' : okM o with
    | false =>
      rw [hk'] at hck
      exact v_bi (a := .inr (.inr [])) (v_ix (by omega) hx (v_bi hck (v_nF (v_cT rfl)))) rfl
    | true =>
      rw [hk'] at hck
      have hf := okM_f ho.1 hk'
      have hK := hf.k
      have h1 := enc_len o.Kind
      have h2 := hasM_len o.Kind
      have hb := rB1 (by omega) hx hf (hasM o.Kind) (by omega) (hasM o.Kind).length 0 n (s ++ enc o.Kind) (by omega) (by omega) (by rw [List.length_append]; omega)
      refine v_bi (a := .inl (s ++ opB o)) (v_ix (by omega) hx (v_bi hck (v_nT (v_cF (v_ix (by omega) hx (v_bi (hasE _) (v_ix (by omega) hx (v_bi (numRD_e (isI_of (by omega) (by omega))) (v_as (by omega) (v_bnd (v_bi hb ?_))))))))))) ?_
      · show some (Sum.inl _) = some (Sum.inl _)
        rw [List.drop_zero, List.append_assoc]; rfl
      · refine v_selb ?_
        refine v_w (by omega) ?_
        exact ih _ (by have := opB_len hf; rw [List.length_append]; omega)
theorem rBytes {a1 : List GOp} (ha : okAll a1) (hl : a1.length ≤ 400) {n : Nat} (hn : a1.length + 250 < n) : d_ref05_Bytes n a1 = some (bytesM a1) := by
  have h1 := enc_len (a1.length : Int)
  unfold d_ref05_Bytes bytesM
  refine v_F (by omega) (v_as rfl (v_bi (numRD_e (isI_len (by omega))) (v_bi (rB0 ha (by omega) a1.length 0 n _ (by omega) hn (by omega)) ?_)))
  rw [List.drop_zero]
  cases bodyM a1 (enc a1.length) <;> rfl
end Go.Pv
