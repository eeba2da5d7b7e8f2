/- TopUnits: the steps, the rounds. -/
import Derived.Test.YtiamgfjojjjggaaGreatF47
set_option linter.unusedSimpArgs false
set_option linter.unusedVariables false
namespace Go.Pv
open Go.Proofs
set_option maxRecDepth 100000
set_option maxHeartbeats 1000000
theorem blk {α : Type} (a b : Bool) (f : Bool → Option α) : ((bnd a fun x => cond x (some true) (bnd b fun y => some y)).bind f) = f (a || b) := by cases a <;> cases b <;> rfl
theorem asc0 {α : Type} (a : Bool) (k : Option α) : asrt (a = false) k = cond a none k := by cases a <;> rfl
theorem chkR47 (q v : Int) : d_ops_Check ⟨1, 0, 0, 0, 0, q, v, 0, []⟩ = cond (decide (q < 1) || decide (q > 1073741824)) none (cond (decide (v < 0) || decide (v > 1125899906842624)) none (some true)) := by
  unfold d_ops_Check
  simp only [blk, asc0]
  show _ = _
  kernel_rfl
theorem chkS47 (q v : Int) : d_ops_Check ⟨4, 0, 0, 0, 0, q, v, 0, []⟩ = cond (decide (q < 1) || decide (q > 1073741824)) none (cond (decide (v < 0) || decide (v > 1125899906842624)) none (some true)) := by
  unfold d_ops_Check
  simp only [blk, asc0]
  show _ = _
  kernel_rfl
theorem chkX47 (q : Int) : d_ops_Check ⟨6, 0, 0, 0, 0, q, 0, 0, []⟩ = cond (decide (q < 1) || decide (q > 1073741824)) none (some true) := by
  unfold d_ops_Check
  simp only [blk, asc0]
  show _ = _
  kernel_rfl
theorem chkR' {q v : Int} (hq : 1 ≤ q ∧ q ≤ 1000) (hv : 0 ≤ v ∧ v ≤ 100000) : d_ops_Check ⟨1, 0, 0, 0, 0, q, v, 0, []⟩ = some true := by
  rw [chkR47, show (decide (q < 1) || decide (q > 1073741824)) = false by simp; omega, show (decide (v < 0) || decide (v > 1125899906842624)) = false by simp; omega]; rfl
theorem chkS' {q v : Int} (hq : 1 ≤ q ∧ q ≤ 1000) (hv : 0 ≤ v ∧ v ≤ 1000) : d_ops_Check ⟨4, 0, 0, 0, 0, q, v, 0, []⟩ = some true := by
  rw [chkS47, show (decide (q < 1) || decide (q > 1073741824)) = false by simp; omega, show (decide (v < 0) || decide (v > 1125899906842624)) = false by simp; omega]; rfl
theorem chkX' {q : Int} (hq : 1 ≤ q ∧ q ≤ 1000) : d_ops_Check ⟨6, 0, 0, 0, 0, q, 0, 0, []⟩ = some true := by
  rw [chkX47, show (decide (q < 1) || decide (q > 1073741824)) = false by simp; omega]; rfl
theorem stepA {s s' : GState} {o : GOp} {f : Int} {n : Nat} (hk : ¬ o.Kind = 14 ∧ ¬ o.Kind = 15 ∧ ¬ o.Kind = 16) (hc : d_ops_Check o = some true) (ha : d_apply_Do n s o = some (s', f)) : d_close_Step n s o = some (s', f) := by
  unfold d_close_Step
  exact v_bi hc (v_nT (v_as rfl (v_F hk.1 (v_cF (v_F hk.2.1 (v_as rfl (v_F hk.2.2 (v_as rfl (v_bi ha rfl)))))))))
theorem appR {s s' : GState} {k v f : Int} {n : Nat} (hk : 1 ≤ k ∧ k ≤ 1000) (hv : 0 ≤ v ∧ v ≤ 100000) (hd : 0 ≤ s'.Done ∧ s'.Done ≤ 1000) (hr : d_receive_Do n s ⟨1, 0, 0, 0, 0, k, v, 0, []⟩ = some (s', f)) :
    d_close_Step n s ⟨1, 0, 0, 0, 0, k, v, 0, []⟩ = some (if f = 0 then ⟨s'.Master, s'.Ents, s'.Receipts, s'.Sales, s'.Transits, s'.Done + 1⟩ else s, f) := by
  have hc := chkR' (q := k) (v := v) hk hv
  refine stepA ⟨show ¬ ((1 : Int) = 14) by decide, show ¬ ((1 : Int) = 15) by decide, show ¬ ((1 : Int) = 16) by decide⟩ hc ?_
  unfold d_apply_Do
  refine v_bi (a := .inr (.inr (.inr ()))) (v_T rfl (v_cT rfl)) ?_
  refine v_selrr ?_
  refine v_selrr ?_
  refine v_selrr ?_
  refine v_bi (a := false) (v_bi hc (v_nT (v_cF rfl))) ?_
  refine v_as rfl ?_
  refine v_bi (v_bi hr rfl) ?_
  refine v_p2 ?_
  by_cases h0 : f = 0
  · subst h0
    have hw : -9223372036854775808 ≤ s'.Done + 1 ∧ s'.Done + 1 ≤ 9223372036854775807 := by omega
    refine v_F (show ¬ ((0 : Int) ≠ 0) by decide) (v_cF (v_w hw ?_))
    show bnd (if (288230376151711744 : Int) < s'.Done + 1 then 288230376151711744 else s'.Done + 1) _ = _
    rw [if_neg (by omega)]
    rfl
  · rw [if_neg h0]
    exact v_T h0 (v_cT rfl)
theorem appS {s s' : GState} {k f : Int} {n : Nat} (hk : 1 ≤ k ∧ k ≤ 1000) (hd : 0 ≤ s'.Done ∧ s'.Done ≤ 1000) (hr : d_stock_Ready s 0 0 = some 0) (hs : d_sell_sell n s ⟨4, 0, 0, 0, 0, k, 1, 0, []⟩ = some (s', f)) :
    d_close_Step n s ⟨4, 0, 0, 0, 0, k, 1, 0, []⟩ = some (if f = 0 then ⟨s'.Master, s'.Ents, s'.Receipts, s'.Sales, s'.Transits, s'.Done + 1⟩ else s, f) := by
  have hc := chkS' (q := k) (v := 1) hk (by omega)
  have hdo : d_sell_Do n s ⟨4, 0, 0, 0, 0, k, 1, 0, []⟩ = some (if f = 0 then s' else s, f) := by
    unfold d_sell_Do
    refine v_bi (a := .inl (⟨4, 0, 0, 0, 0, k, 1, 0, []⟩, ⟨0, 0, 0, 0, 0, 0, 0, 0, false⟩)) (v_F (show ¬ ((4 : Int) = 5) by decide) (v_cF (v_T rfl (v_cT rfl)))) ?_
    refine v_selb (v_p2 (v_bi hr (v_F (show ¬ ((0 : Int) ≠ 0) by decide) (v_as rfl (v_T rfl (v_as rfl (v_bi hs ?_)))))))
    by_cases h0 : f = 0
    · subst h0; exact v_F (show ¬ ((0 : Int) ≠ 0) by decide) (v_cF rfl)
    · rw [if_neg h0]; exact v_T h0 (v_cT rfl)
  refine stepA ⟨show ¬ ((4 : Int) = 14) by decide, show ¬ ((4 : Int) = 15) by decide, show ¬ ((4 : Int) = 16) by decide⟩ hc ?_
  unfold d_apply_Do
  refine v_bi (a := .inr (.inr (.inl ()))) (v_F (show ¬ ((4 : Int) = 1) by decide) (v_cF (v_T rfl (v_bi (v_cT rfl) (v_cT rfl))))) ?_
  refine v_selrr ?_
  refine v_selrr ?_
  refine v_selrl ?_
  refine v_bi (a := false) (v_bi hc (v_nT (v_cF rfl))) ?_
  refine v_as rfl ?_
  refine v_bi (v_bi hdo rfl) ?_
  refine v_p2 ?_
  by_cases h0 : f = 0
  · subst h0
    have hw : -9223372036854775808 ≤ s'.Done + 1 ∧ s'.Done + 1 ≤ 9223372036854775807 := by omega
    refine v_F (show ¬ ((0 : Int) ≠ 0) by decide) (v_cF (v_w hw ?_))
    show bnd (if (288230376151711744 : Int) < s'.Done + 1 then 288230376151711744 else s'.Done + 1) _ = _
    rw [if_neg (by omega)]
    rfl
  · rw [if_neg h0, if_neg h0]
    exact v_T h0 (v_cT rfl)
theorem appX {s s' : GState} {k f : Int} {n : Nat} (hk : 1 ≤ k ∧ k ≤ 1000) (hd : 0 ≤ s'.Done ∧ s'.Done ≤ 1000) (hr : d_stock_Ready s 0 0 = some 0) (hs : d_adjust_scrap n s ⟨6, 0, 0, 0, 0, k, 0, 0, []⟩ = some (s', f)) :
    d_close_Step n s ⟨6, 0, 0, 0, 0, k, 0, 0, []⟩ = some (if f = 0 then ⟨s'.Master, s'.Ents, s'.Receipts, s'.Sales, s'.Transits, s'.Done + 1⟩ else s, f) := by
  have hc := chkX' (q := k) hk
  refine stepA ⟨show ¬ ((6 : Int) = 14) by decide, show ¬ ((6 : Int) = 15) by decide, show ¬ ((6 : Int) = 16) by decide⟩ hc ?_
  unfold d_apply_Do
  refine v_bi (a := .inr (.inl ())) (v_F (show ¬ ((6 : Int) = 1) by decide) (v_cF (v_F (show ¬ ((6 : Int) = 4) by decide) (v_bi (a := false) (v_cF (v_F (show ¬ ((6 : Int) = 5) by decide) rfl)) (v_cF (v_T rfl (v_bi (a := true) (v_cT rfl) (v_cT rfl)))))))) ?_
  refine v_selrr ?_
  refine v_selrl ?_
  refine v_bi (a := false) (v_bi hc (v_nT (v_cF rfl))) ?_
  refine v_as rfl ?_
  by_cases h0 : f = 0
  · subst h0
    refine v_bi (a := (s', 0)) (v_bi (a := (s', 0)) (v_as rfl (v_bi hr (v_F (show ¬ ((0 : Int) ≠ 0) by decide) (v_as rfl (v_bi hs (v_F (show ¬ ((0 : Int) ≠ 0) by decide) (v_cF rfl))))))) rfl) ?_
    refine v_p2 ?_
    have hw : -9223372036854775808 ≤ s'.Done + 1 ∧ s'.Done + 1 ≤ 9223372036854775807 := by omega
    refine v_F (show ¬ ((0 : Int) ≠ 0) by decide) (v_cF (v_w hw ?_))
    show bnd (if (288230376151711744 : Int) < s'.Done + 1 then 288230376151711744 else s'.Done + 1) _ = _
    rw [if_neg (by omega)]
    rfl
  · refine v_bi (a := (s, f)) (v_bi (a := (s, f)) (v_as rfl (v_bi hr (v_F (show ¬ ((0 : Int) ≠ 0) by decide) (v_as rfl (v_bi hs (v_T h0 (v_cT rfl))))))) rfl) ?_
    refine v_p2 ?_
    rw [if_neg h0]
    exact v_T h0 (v_cT rfl)
theorem l2V (q : Nat) (p : Int) (hq : q ≤ 12) : ∀ (d j n : Nat) (us : List Int), j + d = q → d < n → us.length + d ≤ 10000 → d_top_TopUnits_L2 q p n j us = some (us ++ List.replicate d p) := by
  intro d
  induction d with
  | zero =>
    intro j n us hj hn hl
    obtain ⟨n, rfl⟩ : ∃ m, n = m + 1 := ⟨n - 1, by omega⟩
    rw [d_top_TopUnits_L2]
    exact v_F (by omega) (v_cF (by simp))
  | succ d ih =>
    intro j n us hj hn hl
    obtain ⟨n, rfl⟩ : ∃ m, n = m + 1 := ⟨n - 1, by omega⟩
    rw [d_top_TopUnits_L2]
    refine v_T (by omega) (v_cT (v_bnd (v_as (by simp; omega) (v_w (by omega) ?_))))
    rw [show ((j : Int) + 1) = ((j + 1 : Nat) : Int) by omega, ih (j + 1) n _ (by omega) (by omega) (by simp; omega), List.append_assoc]
    rfl
theorem l3V (us : List Int) (hu : ∀ y ∈ us, 0 ≤ y ∧ y ≤ 89) (hl : us.length ≤ 1000) : ∀ (d j n : Nat) (a : Int), j + d = us.length → d < n → 0 ≤ a ∧ a + su (us.drop j) ≤ 1000000 → d_top_TopUnits_L3 us n a j = some (a + su (us.drop j)) := by
  intro d
  induction d with
  | zero =>
    intro j n a hj hn ha
    obtain ⟨n, rfl⟩ : ∃ m, n = m + 1 := ⟨n - 1, by omega⟩
    rw [d_top_TopUnits_L3, List.drop_eq_nil_of_le (by omega)]
    exact v_F (by omega) (v_cF (by simp [su]))
  | succ d ih =>
    intro j n a hj hn ha
    obtain ⟨n, rfl⟩ : ∃ m, n = m + 1 := ⟨n - 1, by omega⟩
    have hlt : j < us.length := by omega
    have hd : su (us.drop j) = us[j] + su (us.drop (j + 1)) := by rw [List.drop_eq_getElem_cons hlt]; rfl
    have hx := hu us[j] (List.getElem_mem hlt)
    have hr := su_le (l := us.drop (j + 1)) fun y hy => hu y (List.mem_of_mem_drop hy)
    rw [d_top_TopUnits_L3]
    refine v_T (by omega) (v_cT (v_ix (by omega) (by rw [Int.toNat_natCast]; exact List.getElem?_eq_getElem hlt) (v_w (by omega) (v_w (by omega) ?_))))
    rw [show ((j : Int) + 1) = ((j + 1 : Nat) : Int) by omega, ih (j + 1) n _ (by omega) (by omega) (by omega), hd, Int.add_assoc]
theorem l1S (us : List Int) (hu : ∀ y ∈ us, 0 ≤ y ∧ y ≤ 89) (k : Int) (q : Nat) (hq : q ≤ us.length) (hq1 : q ≤ 12) (hk : k.tmod 4 = 2) : ∀ (d j n : Nat) (a b : Int), j + d = q → d < n → 0 ≤ a ∧ a + su ((us.drop j).take d) ≤ 1000000 → d_top_TopUnits_L1 us k q n a b j = some (a + su ((us.drop j).take d), b) := by
  intro d
  induction d with
  | zero =>
    intro j n a b hj hn ha
    obtain ⟨n, rfl⟩ : ∃ m, n = m + 1 := ⟨n - 1, by omega⟩
    rw [d_top_TopUnits_L1]
    exact v_F (by omega) (v_cF (by simp [su]))
  | succ d ih =>
    intro j n a b hj hn ha
    obtain ⟨n, rfl⟩ : ∃ m, n = m + 1 := ⟨n - 1, by omega⟩
    have hlt : j < us.length := by omega
    have hd : su ((us.drop j).take (d + 1)) = us[j] + su ((us.drop (j + 1)).take d) := by rw [List.drop_eq_getElem_cons hlt]; rfl
    have hx := hu us[j] (List.getElem_mem hlt)
    have hr := su_le (l := (us.drop (j + 1)).take d) fun y hy => hu y (List.mem_of_mem_drop (List.mem_of_mem_take hy))
    rw [d_top_TopUnits_L1]
    refine v_T (by omega) (v_cT ?_)
    refine v_bi (a := (a + us[j], b)) (v_bnd (v_T hk (v_cT (v_ix (by omega) (by rw [Int.toNat_natCast]; exact List.getElem?_eq_getElem hlt) (v_w (by omega) rfl))))) ?_
    refine v_p2 (v_w (by omega) ?_)
    rw [show ((j : Int) + 1) = ((j + 1 : Nat) : Int) by omega, ih (j + 1) n _ _ (by omega) (by omega) (by omega), hd, Int.add_assoc]
theorem l1X (us : List Int) (hu : ∀ y ∈ us, 0 ≤ y ∧ y ≤ 89) (k : Int) (q : Nat) (hq : q ≤ us.length) (hq1 : q ≤ 12) (hk : ¬ k.tmod 4 = 2) : ∀ (d j n : Nat) (a b : Int), j + d = q → d < n → 0 ≤ b ∧ b + su ((us.drop j).take d) ≤ 1000000 → d_top_TopUnits_L1 us k q n a b j = some (a, b + su ((us.drop j).take d)) := by
  intro d
  induction d with
  | zero =>
    intro j n a b hj hn ha
    obtain ⟨n, rfl⟩ : ∃ m, n = m + 1 := ⟨n - 1, by omega⟩
    rw [d_top_TopUnits_L1]
    exact v_F (by omega) (v_cF (by simp [su]))
  | succ d ih =>
    intro j n a b hj hn ha
    obtain ⟨n, rfl⟩ : ∃ m, n = m + 1 := ⟨n - 1, by omega⟩
    have hlt : j < us.length := by omega
    have hd : su ((us.drop j).take (d + 1)) = us[j] + su ((us.drop (j + 1)).take d) := by rw [List.drop_eq_getElem_cons hlt]; rfl
    have hx := hu us[j] (List.getElem_mem hlt)
    have hr := su_le (l := (us.drop (j + 1)).take d) fun y hy => hu y (List.mem_of_mem_drop (List.mem_of_mem_take hy))
    rw [d_top_TopUnits_L1]
    refine v_T (by omega) (v_cT ?_)
    refine v_bi (a := (a, b + us[j])) (v_bnd (v_F hk (v_cF (v_ix (by omega) (by rw [Int.toNat_natCast]; exact List.getElem?_eq_getElem hlt) (v_w (by omega) rfl))))) ?_
    refine v_p2 (v_w (by omega) ?_)
    rw [show ((j : Int) + 1) = ((j + 1 : Nat) : Int) by omega, ih (j + 1) n _ _ (by omega) (by omega) (by omega), hd, Int.add_assoc]
theorem lookU {R : Type} {K : Option R} {l : List (Nat × Int)} {b r c x : Int} {rc : List GReceipt} {sl : List GSale} {dn : Int} {n : Nat} (h : NmU l b r c x) :
    ((d_top_TopUnits_L3 (flat l) (n + 700) 0 0).bind fun (y9_1 : Int) =>
    (d_stock_Worth (n + 700) (sU (enU l b r c x) rc sl dn) 0 0).bind fun (x70 : GLayer) =>
    (show Option (Bool) from
    bnd (decide (((sU (enU l b r c x) rc sl dn).Ents.length : Int) ≠ 1)) fun (x73 : Bool) =>
    cond x73 (some (true : Bool)) (bnd (decide (x70.Qty ≠ ((flat l).length : Int))) fun (x74 : Bool) =>
    cond x74 (some (true : Bool)) (bnd (decide (x70.Value ≠ y9_1)) fun (x75 : Bool) =>
    cond x75 (some (true : Bool)) ((ix (sU (enU l b r c x) rc sl dn).Ents 0).bind fun (x76 : GEnt) =>
    (ix x76.Bal 5).bind fun (x77 : Int) =>
    bnd (decide (x77 ≠ c)) fun (x78 : Bool) =>
    cond x78 (some (true : Bool)) ((ix (sU (enU l b r c x) rc sl dn).Ents 0).bind fun (x79 : GEnt) =>
    (ix x79.Bal 7).bind fun (x80 : Int) =>
    bnd (decide (x80 ≠ x)) fun (x81 : Bool) =>
    some (x81 : Bool)))))).bind fun (y10_1 : Bool) => asrt (y10_1 = false) K) = K := by
  have hfb := flat_b h.ok h.len
  have h3 := l3V (flat l) (flat_in h.ok) (by omega) (flat l).length 0 (n + 700) 0 (by omega) (by omega) (by rw [List.drop_zero]; omega)
  rw [List.drop_zero, Int.zero_add] at h3
  have hw : d_stock_Worth (n + 700) (sU (enU l b r c x) rc sl dn) 0 0 = some ⟨(flat l).length, su (flat l), 0⟩ := by
    unfold d_stock_Worth
    exact v_bi (worthU (n := n + 500) h.ok h.len) rfl
  refine v_bi h3 (v_bi hw (v_bi (a := false) ?_ (v_as rfl rfl)))
  refine v_F (by show ¬ ((1 : Int) ≠ 1); decide) (v_cF ?_)
  refine v_F (by simp) (v_cF ?_)
  refine v_F (by simp) (v_cF ?_)
  refine v_ix (by decide) rfl (v_ix (by decide) rfl ?_)
  refine v_F (by show ¬ (c ≠ c); simp) (v_cF ?_)
  refine v_ix (by decide) rfl (v_ix (by decide) rfl ?_)
  exact v_F (by show ¬ (x ≠ x); simp) rfl
end Go.Pv
