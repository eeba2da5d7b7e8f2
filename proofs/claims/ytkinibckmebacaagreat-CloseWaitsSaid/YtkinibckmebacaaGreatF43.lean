/- CloseWaits: a sale that waits. -/
import Derived.Test.YtkinibckmebacaaGreatE43
set_option linter.unusedSimpArgs false
set_option linter.unusedVariables false
namespace Go.Pv
open Go.Proofs
set_option maxRecDepth 100000
set_option maxHeartbeats 4000000
theorem freeV {q v g : Int} (hq : 0 ≤ q ∧ q ≤ 1000) (hg : 0 ≤ g ∧ g ≤ 1000) {n : Nat} : d_pavg_Free (n + 10) ⟨lay q v, ⟨g, 0, 0⟩⟩ = some (q - g) := by
  have h0 : d_pavg_Free_L0 ⟨lay q v, ⟨g, 0, 0⟩⟩ (n + 10) 0 0 = some q := by
    unfold lay
    by_cases hz : q = 0
    · rw [if_pos hz, d_pavg_Free_L0]
      refine v_F (by simp) (v_cF ?_); rw [hz]
    · rw [if_neg hz, d_pavg_Free_L0]
      refine v_T (by simp) (v_cT (v_ix (by omega) rfl (v_w (by dsimp only; omega) (v_w (by omega) ?_))))
      rw [d_pavg_Free_L0]
      exact v_F (by simp) (v_cF (by rw [Int.zero_add]))
  have h1 : d_pavg_Free_L1 ⟨lay q v, ⟨g, 0, 0⟩⟩ (n + 10) q 0 = some (q - g) := by
    rw [d_pavg_Free_L1]
    refine v_T (by omega) (v_cT (v_ix (by omega) rfl (v_w (by dsimp only; omega) (v_w (by omega) ?_))))
    rw [d_pavg_Free_L1]
    refine v_T (by omega) (v_cT (v_ix (by omega) rfl (v_w (by dsimp only; omega) (v_w (by omega) ?_))))
    rw [d_pavg_Free_L1]
    refine v_T (by omega) (v_cT (v_ix (by omega) rfl (v_w (by dsimp only; omega) (v_w (by omega) ?_))))
    rw [d_pavg_Free_L1]
    refine v_F (by omega) (v_cF ?_)
    rw [Int.sub_zero, Int.sub_zero]
  unfold d_pavg_Free
  exact v_bi h0 (v_bi h1 rfl)
theorem layLen (q v : Int) : (lay q v).length ≤ 1 := by unfold lay; split <;> simp
theorem ownV {l : List GLayer} {p : A3_Int} (h : l.length ≤ 1000) : d_pavg_own ⟨l, p⟩ l = some ⟨l, p⟩ := by unfold d_pavg_own; exact v_as (by omega) rfl
theorem pownV {l : List GLayer} {p : A3_Int} (h : l.length ≤ 1000) : d_pool_own ⟨l, p⟩ = some ⟨l, p⟩ := by unfold d_pool_own; exact v_as (by dsimp only; omega) (v_bi rfl rfl)
theorem waitT {q v g k : Int} (hq : 0 ≤ q ∧ q ≤ 1000) (hg : 0 ≤ g ∧ g ≤ 1000) (hk : 1 ≤ k ∧ k ≤ 1000) (h : k ≤ q - g) {n : Nat} : d_pavg_Wait (n + 10) ⟨lay q v, ⟨g, 0, 0⟩⟩ 0 k = some (⟨lay q v, ⟨g + k, 0, 0⟩⟩, 0) := by
  have hl := layLen q v
  unfold d_pavg_Wait
  exact v_bi (ownV (by omega)) (v_bi (a := false) (v_bi (a := true) rfl (v_nT (v_cF (v_F (by omega) rfl)))) (v_as rfl (v_bi (freeV hq hg) (v_F (by omega) (v_cF (v_T rfl (v_cT (v_w (by dsimp only; omega) rfl))))))))
theorem waitF {q v g k : Int} (hq : 0 ≤ q ∧ q ≤ 1000) (hg : 0 ≤ g ∧ g ≤ 1000) (hk : 1 ≤ k ∧ k ≤ 1000) (h : ¬ k ≤ q - g) {n : Nat} : d_pavg_Wait (n + 10) ⟨lay q v, ⟨g, 0, 0⟩⟩ 0 k = some (⟨lay q v, ⟨g, 0, 0⟩⟩, 5) := by
  have hl := layLen q v
  unfold d_pavg_Wait
  exact v_bi (ownV (by omega)) (v_bi (a := false) (v_bi (a := true) rfl (v_nT (v_cF (v_F (by omega) rfl)))) (v_as rfl (v_bi (freeV hq hg) (v_T (by omega) (v_cT rfl)))))
theorem poutT {q v g k : Int} (hq : 0 ≤ q ∧ q ≤ 1000) (hg : 0 ≤ g ∧ g ≤ 1000) (hk : 1 ≤ k ∧ k ≤ 1000) (h : k ≤ q - g) {n : Nat} : d_pool_Out (n + 10) 3 0 ⟨lay q v, ⟨g, 0, 0⟩⟩ 0 k = some (⟨lay q v, ⟨g + k, 0, 0⟩⟩, ⟨0, 0, 0⟩, true, 0) := by
  unfold d_pool_Out
  refine v_bi (a := .inr ()) rfl ?_
  refine v_selrr ?_
  refine v_bi (a := false) rfl ?_
  refine v_as rfl ?_
  refine v_bi rfl ?_
  refine v_T (by decide) (v_as rfl ?_)
  refine v_bi (waitT hq hg hk h) ?_
  exact v_F (show ¬ ((0 : Int) ≠ 0) by decide) (v_cF rfl)
theorem poutF {q v g k : Int} (hq : 0 ≤ q ∧ q ≤ 1000) (hg : 0 ≤ g ∧ g ≤ 1000) (hk : 1 ≤ k ∧ k ≤ 1000) (h : ¬ k ≤ q - g) {n : Nat} : d_pool_Out (n + 10) 3 0 ⟨lay q v, ⟨g, 0, 0⟩⟩ 0 k = some (⟨lay q v, ⟨g, 0, 0⟩⟩, ⟨0, 0, 0⟩, false, 5) := by
  have hl := layLen q v
  unfold d_pool_Out
  refine v_bi (a := .inr ()) rfl ?_
  refine v_selrr ?_
  refine v_bi (a := false) rfl ?_
  refine v_as rfl ?_
  refine v_bi rfl ?_
  refine v_T (by decide) (v_as rfl ?_)
  refine v_bi (waitF hq hg hk h) ?_
  exact v_T (show ((5 : Int) ≠ 0) by decide) (v_cT (v_bi (pownV (by omega)) rfl))
section
variable {q v g b c d k : Int} {rc : List GReceipt} {sl : List GSale} {dn : Int} {n : Nat}
theorem fetchT (h : Nm q v g b c d) (hk : 1 ≤ k ∧ k ≤ 1000) (hf : k ≤ q - g) : d_stock_Fetch (n + 200) (sW (en q v g b c d) rc sl dn) 0 0 0 0 k = some (sW (en q v (g + k) b c d) rc sl dn, ⟨0, 0, 0⟩, true, 0) := by
  have hq := h.hq; have hg := h.hg
  have hA := atW (en q v g b c d) rfl rfl rc sl dn
  have ho := poutT (v := v) (k := k) (by omega) (by omega) hk hf (n := n + 190) (q := q) (g := g)
  unfold d_stock_Fetch
  refine v_bi (place_s hA (k := 0) (by omega)) (v_F (by omega) (v_as rfl (v_ix (by omega) rfl (v_ix (by omega) rfl (v_ix (by omega) rfl (v_ix (by omega) rfl (v_ix (by omega) rfl (v_ix (by omega) rfl (v_bi ho (v_bnd (v_F (show ¬ ((0 : Int) ≠ 0) by decide) (v_cF ?_))))))))))))
  refine v_bi (a := (1, false, (en q v g b c d).Bal, (en q v g b c d).Rolls, [-1], [0], [], [⟨lay q v, ⟨g + k, 0, 0⟩⟩, ⟨[], ⟨0, 0, 0⟩⟩])) ?_ ?_
  · exact v_bi (a := ()) (v_as (by simp [sW]) (v_ix (by omega) rfl rfl)) (v_ix (by omega) rfl (v_as (by simp [en]) (v_ix (by omega) rfl (v_bnd rfl))))
  · exact v_p2 (v_p2 (v_p2 (v_p2 (v_p2 (v_p2 (v_p2 (v_ix (by omega) rfl rfl)))))))
theorem fetchF (h : Nm q v g b c d) (hk : 1 ≤ k ∧ k ≤ 1000) (hf : ¬ k ≤ q - g) : d_stock_Fetch (n + 200) (sW (en q v g b c d) rc sl dn) 0 0 0 0 k = some (sW (en q v g b c d) rc sl dn, ⟨0, 0, 0⟩, false, 5) := by
  have hq := h.hq; have hg := h.hg
  have hA := atW (en q v g b c d) rfl rfl rc sl dn
  have ho := poutF (v := v) (k := k) (by omega) (by omega) hk hf (n := n + 190) (q := q) (g := g)
  unfold d_stock_Fetch
  exact v_bi (place_s hA (k := 0) (by omega)) (v_F (by omega) (v_as rfl (v_ix (by omega) rfl (v_ix (by omega) rfl (v_ix (by omega) rfl (v_ix (by omega) rfl (v_ix (by omega) rfl (v_ix (by omega) rfl (v_bi ho (v_bnd (v_T (show ((5 : Int) ≠ 0) by decide) (v_cT rfl))))))))))))
theorem postV (h : Nm q v g b c d) : d_stock_Post (n + 200) (sW (en q v g b c d) rc sl dn) 0 [⟨3, 1⟩, ⟨4, 0 - 1⟩, ⟨5, 0⟩, ⟨0, 0 - 0⟩] = some (sW (en q v g b (c + 1) (d + -1)) rc sl dn, 0) := by
  have hc := h.hc; have hd := h.hd
  exact post_v (by decide) (x := en q v g b c d) rfl (by simp [sW]) (plV (n := n + 188)) (glV (n := n + 186) rfl rfl (by omega) rfl (by omega))
def sal (k : Int) : GSale := ⟨0, 0, 0, k, 0, 0, 0, 1, true⟩
theorem sellT (h : Nm q v g b c d) (hk : 1 ≤ k ∧ k ≤ 1000) (hf : k ≤ q - g) (hs : sl.length < 40) : d_sell_sell (n + 200) (sW (en q v g b c d) rc sl dn) ⟨4, 0, 0, 0, 0, k, 1, 0, []⟩ = some (sW (en q v (g + k) b (c + 1) (d + -1)) rc (sl ++ [sal k]) dn, 0) := by
  have hq := h.hq; have hg := h.hg; have hc := h.hc; have hd := h.hd
  have h1 : Nm q v (g + k) b c d := ⟨h.hq, h.hv, h.hz, by omega, h.hb, h.hc, h.hd⟩
  have f1 := fetchT (rc := rc) (sl := sl) (dn := dn) (n := n) h hk hf
  have f2 := postV (rc := rc) (sl := sl) (dn := dn) (n := n) h1
  have f3 : d_stock_Turn (sW (en q v (g + k) b (c + 1) (d + -1)) rc sl dn) 0 0 ⟨0, 0, 0, 0, 0, 0, 0, 0, 0, 0, 0⟩ = some (sW (en q v (g + k) b (c + 1) (d + -1)) rc sl dn, 0) := by
    have hv := h.hv
    refine (turn_v (atW (en q v (g + k) b (c + 1) (d + -1)) rfl rfl rc sl dn) (r1 := 0) (r2 := v) (r3 := 0) (r4 := 0) (r5 := 0) (r6 := 0) (r7 := 0) (r8 := 0) (r9 := 0) (r10 := 0) (r11 := 0) rfl (by omega) (by omega) (by omega) (by omega) (by omega) (by omega) (by omega) (by omega) (by omega) (by omega) (by omega)).trans ?_
    rw [Int.add_zero v]; rfl
  unfold d_sell_sell
  refine v_F (by show ¬ ((sl.length : Int) ≥ 40); omega) (v_as rfl (v_bi f1 (v_F (show ¬ ((0 : Int) ≠ 0) by decide) (v_cF (v_bi rfl (v_w (by dsimp only; omega) (v_bi rfl (v_bi rfl (v_w (by dsimp only; omega) (v_bi rfl ?_))))))))))
  refine v_bi f2 (v_F (show ¬ ((0 : Int) ≠ 0) by decide) (v_as rfl (v_bi f3 (v_F (show ¬ ((0 : Int) ≠ 0) by decide) (v_as rfl (v_ix (show (0 : Int) ≤ 0 by decide) rfl (v_bnd (v_as ?_ (v_bnd (v_as ?_ rfl))))))))))
  · show sl.length ≤ _; omega
  · show (sl ++ [_]).length ≤ _; rw [List.length_append, List.length_singleton]; omega
theorem sellF (h : Nm q v g b c d) (hk : 1 ≤ k ∧ k ≤ 1000) (hf : ¬ k ≤ q - g) (hs : sl.length < 40) : d_sell_sell (n + 200) (sW (en q v g b c d) rc sl dn) ⟨4, 0, 0, 0, 0, k, 1, 0, []⟩ = some (sW (en q v g b c d) rc sl dn, 5) := by
  have f1 := fetchF (rc := rc) (sl := sl) (dn := dn) (n := n) h hk hf
  unfold d_sell_sell
  exact v_F (by show ¬ ((sl.length : Int) ≥ 40); omega) (v_as rfl (v_bi f1 (v_T (show ((5 : Int) ≠ 0) by decide) (v_cT rfl))))
theorem appS {s s' : GState} {f : Int} (hk : 1 ≤ k ∧ k ≤ 1000) (hd : 0 ≤ s'.Done ∧ s'.Done ≤ 1000) (hr : d_stock_Ready s 0 0 = some 0) (hs : d_sell_sell n s ⟨4, 0, 0, 0, 0, k, 1, 0, []⟩ = some (s', f)) :
    d_close_Step n s ⟨4, 0, 0, 0, 0, k, 1, 0, []⟩ = some (if f = 0 then ⟨s'.Master, s'.Ents, s'.Receipts, s'.Sales, s'.Transits, s'.Done + 1⟩ else s, f) := by
  have hc := chkS' (q := k) (v := 1) hk (by omega)
  have hdo : d_sell_Do n s ⟨4, 0, 0, 0, 0, k, 1, 0, []⟩ = some (if f = 0 then s' else s, f) := by
    unfold d_sell_Do
    refine v_bi (a := .inl (⟨4, 0, 0, 0, 0, k, 1, 0, []⟩, ⟨0, 0, 0, 0, 0, 0, 0, 0, false⟩)) (v_F (show ¬ ((4 : Int) = 5) by decide) (v_cF (v_T rfl (v_cT rfl)))) ?_
    refine v_selb (v_p2 (v_bi hr (v_F (show ¬ ((0 : Int) ≠ 0) by decide) (v_as rfl (v_T rfl (v_as rfl (v_bi hs ?_)))))))
    by_cases h0 : f = 0
    · subst h0; exact v_F (show ¬ ((0 : Int) ≠ 0) by decide) (v_cF rfl)
    · rw [if_neg h0]; exact v_T h0 (v_cT rfl)
  refine stepA (.inr rfl) hc ?_
  unfold d_apply_Do
  refine v_bi (a := .inr (.inl ())) (v_F (show ¬ ((4 : Int) = 1) by decide) (v_cF (v_T rfl (v_bi (v_cT rfl) (v_cT rfl))))) ?_
  refine v_selrr ?_
  refine v_selrl ?_
  refine v_bi (a := false) (v_bi hc (v_nT (v_cF rfl))) ?_
  refine v_as rfl ?_
  refine v_bi (v_bi hdo rfl) ?_
  refine v_p2 ?_
  by_cases h0 : f = 0
  · subst h0
    have hw : -9223372036854775808 ≤ s'.Done + 1 ∧ s'.Done + 1 ≤ 9223372036854775807 := by omega
    refine v_F (show ¬ ((0 : Int) ≠ 0) by decide) (v_cF (v_w hw ?_))
    show bnd (if (288230376151711744 : Int) < s'.Done + 1 then 288230376151711744 else s'.Done + 1) _ = _
    rw [if_neg (by omega)]
    rfl
  · rw [if_neg h0, if_neg h0]
    exact v_T h0 (v_cT rfl)
end
end Go.Pv
