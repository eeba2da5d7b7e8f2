import Derived.Test.YtpbcnilkippahaaP62
set_option linter.unusedSimpArgs false
set_option linter.unusedVariables false
namespace Go.Pv
set_option maxRecDepth 100000
set_option maxHeartbeats 1000000
theorem pB1 {a1 : List GOp} {i : Int} {o : GOp} {s : List UInt8} {n : Nat} {r : Option (List UInt8 ⊕ List UInt8)} (h0 : 0 ≤ i) (hi : i < (a1.length : Int)) (hb : i < 1000000) (hx : a1[i.toNat]? = some o) (hc : d_ops_Check n o = some true) (hf : Fits o) (hs : s.length ≤ 1000000000) (h : d_ops_Bytes_L0 a1 n (i + 1) (s ++ opB o) = r) :
    d_ops_Bytes_L0 a1 (n + 1) i s = r := by
  obtain ⟨k, a, b, c, d, e, f, g, l⟩ := o
  have ia : isI a := by have := hf.a; exact isI_of this.1 (by dsimp only at this; omega)
  have ib : isI b := by have := hf.b; exact isI_of this.1 (by dsimp only at this; omega)
  have ic : isI c := by have := hf.c; exact isI_of this.1 (by dsimp only at this; omega)
  have id : isI d := by have := hf.d; exact isI_of this.1 (by dsimp only at this; omega)
  have ie : isI e := by have := hf.e; exact isI_of this.1 (by dsimp only at this; omega)
  have if_ : isI f := by have := hf.f; exact isI_of this.1 (by dsimp only at this; omega)
  have ig : isI g := by have := hf.g; exact isI_of this.1 (by dsimp only at this; omega)
  have il : ∀ x ∈ l, isI x := hf.r
  have hl : l.length ≤ 40 := hf.l
  have hk : 1 ≤ k ∧ k ≤ 16 := hf.k
  have ik : isI k := isI_of (by omega) (by omega)
  have ek := enc_len k; have ea := enc_len a; have eb := enc_len b; have ec := enc_len c; have ed := enc_len d; have ee := enc_len e; have ef := enc_len f; have eg := enc_len g; have el := encL_len l
  have il2 := listD_e il (by omega)
  clear hf
  rw [d_ops_Bytes_L0]
  refine v_T hi (v_cT ?_)
  refine v_bi (a := .inl (s ++ opB ⟨k, a, b, c, d, e, f, g, l⟩)) ?_ (by refine v_selb ?_; refine v_w (by omega) ?_; exact h)
  refine v_ix h0 hx (v_bi hc (v_nT (v_cF ?_)))
  clear hc hx h
  rcases kinds (by omega : ¬ (k < 1 ∨ k > 16)) with rfl | rfl | rfl | rfl | rfl | rfl | rfl | rfl | rfl | rfl | rfl | rfl | rfl | rfl | rfl | rfl
  all_goals
    repeat (first
      | ((with_reducible refine v_bi (numD_e ?_) ?_); · assumption)
      | refine v_bi il2 ?_
      | ((with_reducible refine v_as ?_ ?_); · ((try simp only [List.length_append]); omega))
      | ((with_reducible refine v_as ?_ ?_); · rfl)
      | ((with_reducible refine v_T ?_ ?_); · rfl)
      | ((with_reducible refine v_F ?_ ?_); · (dsimp only; omega))
      | with_reducible refine v_cT ?_
      | with_reducible refine v_cF ?_
      | with_reducible refine v_brk ?_
      | with_reducible refine v_bi (a := ()) rfl ?_
      | with_reducible refine v_bnd ?_)
    simp [opB, hasM, fOp, vaM]
theorem pB0 {a1 : List GOp} (ha : okAll a1) (hl : a1.length ≤ 1000) : ∀ (d k n : Nat) (s : List UInt8), k + d = a1.length → d + 250 < n → s.length + 3011 * d ≤ 1000000000 →
    d_ops_Bytes_L0 a1 n (k : Int) s = some (match bodyM (a1.drop k) s with | some t => .inl t | none => .inr [])
  | _, _, 0, _, _, hn, _ => by omega
  | 0, k, n + 1, s, hk, hn, hs => by
    rw [d_ops_Bytes_L0, List.drop_of_length_le (by omega)]
    exact v_F (by omega) (v_cF rfl)
  | d + 1, k, n + 1, s, hk, hn, hs => by
    have hkl : k < a1.length := by omega
    have hx : a1[((k : Int)).toNat]? = some a1[k] := by simp [hkl]
    have ho := ha _ (List.getElem_mem hkl)
    have ih := fun s' h => pB0 ha hl d (k + 1) n s' (by omega) (by omega) h
    rw [List.drop_eq_getElem_cons hkl]
    generalize a1[k] = o at *
    have hck := chkP (n := n) ho.1 (by omega)
    simp only [bodyM]
    cases hk' : okM o with
    | false =>
      rw [hk'] at hck
      rw [d_ops_Bytes_L0]
      refine v_T (by omega) (v_cT ?_)
      exact v_bi (a := .inr (.inr [])) (v_ix (by omega) hx (v_bi hck (v_nF (v_cT rfl)))) rfl
    | true =>
      rw [hk'] at hck
      have hf := okM_f ho.1 hk'
      refine pB1 (by omega) (by omega) (by omega) hx hck hf (by omega) ?_
      exact ih _ (by have := opB_len hf; rw [List.length_append]; omega)
theorem body_len : ∀ (l : List GOp) (s t : List UInt8), okAll l → bodyM l s = some t → s.length ≤ t.length ∧ t.length ≤ s.length + 3011 * l.length
  | [], s, t, _, h => by cases h; simp
  | o :: r, s, t, ha, h => by
    simp only [bodyM] at h
    cases hk : okM o with
    | false => rw [hk] at h; cases h
    | true =>
      rw [hk] at h
      have hf := okM_f (ha o (List.mem_cons_self ..)).1 hk
      have := body_len r _ t (fun x hx => ha x (List.mem_cons_of_mem _ hx)) h
      have h2 := opB_len hf
      rw [List.length_append] at this; rw [List.length_cons]; omega
theorem pBytes {a1 : List GOp} (ha : okAll a1) (hl : a1.length ≤ 400) {n : Nat} (hn : a1.length + 250 < n) : d_ops_Bytes n a1 = some (bytesM a1) := by
  have h1 := enc_len (a1.length : Int)
  have h2 := enc_ne (a1.length : Int)
  unfold d_ops_Bytes bytesM
  refine v_F (by omega) (v_as rfl (v_bi (numD_e (isI_len (by omega))) (v_as (by omega) (v_bi (pB0 ha (by omega) a1.length 0 n _ (by omega) hn (by omega)) ?_))))
  rw [List.drop_zero]
  cases hb : bodyM a1 (enc a1.length) with
  | none => rfl
  | some t =>
    have h3 := body_len a1 _ t ha hb
    have h4 : (enc (a1.length : Int)).length ≠ 0 := fun h => h2 (List.eq_nil_of_length_eq_zero h)
    exact v_selb (v_as (by intro e; rw [e, List.length_nil] at h3; omega) (v_as (by omega) rfl))
end Go.Pv
set_option linter.unusedSimpArgs false
set_option linter.unusedVariables false
namespace Go.Pv
set_option maxRecDepth 100000
set_option maxHeartbeats 1000000
def fldR (c : UInt8) (p : GOp × RS) : GOp × RS :=
  if c = 101 then ({ p.1 with E := numV p.2 }, numR p.2) else
  if c = 105 then ({ p.1 with Item := numV p.2 }, numR p.2) else
  if c = 108 then ({ p.1 with Loc := numV p.2 }, numR p.2) else
  if c = 116 then ({ p.1 with To := numV p.2 }, numR p.2) else
  if c = 113 then ({ p.1 with Qty := numV p.2 }, numR p.2) else
  if c = 97 then ({ p.1 with Amount := numV p.2 }, numR p.2) else
  if c = 114 then ({ p.1 with Ref := numV p.2 }, numR p.2) else
  ({ p.1 with Refs := lstV p.2 40 }, lstR p.2 40)
def rdF (h : List UInt8) (p : GOp × RS) : GOp × RS := h.foldl (fun p c => fldR c p) p
def rdOp (k : Int) (s : RS) : GOp × RS := rdF (hasM k) (⟨k, 0, 0, 0, 0, 0, 0, 0, []⟩, s)
structure RsOk (p : GOp × RS) : Prop where
  s : okS p.2
  l : p.2.1.length ≤ 1000000
  r : p.1.Refs.length ≤ 40
theorem lst40 (s : RS) : (lstV s 40).length ≤ 40 := by
  unfold lstV; split
  · exact Nat.zero_le _
  · rw [nums_len]; have := cntV_le s 40 (by omega); omega
theorem fldR_ok {p : GOp × RS} (h : RsOk p) (c : UInt8) : RsOk (fldR c p) ∧ (fldR c p).2.1.length ≤ p.2.1.length ∧ (fldR c p).1.Kind = p.1.Kind := by
  have h1 := numR_len p.2
  have h2 := lstR_len p.2 40
  have h3 := h.l
  unfold fldR
  repeat' split
  all_goals first | exact ⟨⟨okS_num h.s, Nat.le_trans h1 h3, h.r⟩, h1, rfl⟩ | exact ⟨⟨okS_lst h.s 40, Nat.le_trans h2 h3, lst40 _⟩, h2, rfl⟩
theorem rdF_ok : ∀ (h : List UInt8) (p : GOp × RS), RsOk p → RsOk (rdF h p) ∧ (rdF h p).2.1.length ≤ p.2.1.length ∧ (rdF h p).1.Kind = p.1.Kind
  | [], p, hp => ⟨hp, Nat.le_refl _, rfl⟩
  | c :: h, p, hp => by
    obtain ⟨h1, h2, h3⟩ := fldR_ok hp c
    obtain ⟨h4, h5, h6⟩ := rdF_ok h _ h1
    exact ⟨h4, Nat.le_trans h5 h2, h6.trans h3⟩
def readG : Nat → RS → List GOp → List GOp × Int
  | 0, s, acc => cond (!s.2 && decide (s.1 = [])) (acc, 0) ([], 3)
  | n + 1, s, acc => cond ((rdOp (cntV s 16) (cntR s 16)).2.2 || !okM (rdOp (cntV s 16) (cntR s 16)).1) ([], 3) (readG n (rdOp (cntV s 16) (cntR s 16)).2 (acc ++ [(rdOp (cntV s 16) (cntR s 16)).1]))
def readM (s : List UInt8) : List GOp × Int := readG (cntV (s, false) 400).toNat (cntR (s, false) 400) []
theorem rs_ok {s : RS} (k : Int) (h : okS s) (hl : s.1.length ≤ 1000000) : RsOk ((⟨k, 0, 0, 0, 0, 0, 0, 0, []⟩ : GOp), s) := ⟨h, hl, by simp⟩
theorem cnt_in {s : RS} (h : ¬ (numV s < 0 ∨ 16 < numV s)) : cntV s 16 = numV s ∧ cntR s 16 = numR s := by unfold cntV cntR; rw [if_neg h, if_neg h]; exact ⟨rfl, rfl⟩
end Go.Pv
