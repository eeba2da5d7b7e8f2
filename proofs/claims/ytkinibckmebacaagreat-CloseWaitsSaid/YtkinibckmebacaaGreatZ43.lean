/- CloseWaits: the plain law. -/
import Derived.Test.YtkinibckmebacaaGreatW43
set_option linter.unusedSimpArgs false
set_option linter.unusedVariables false
namespace Go.Pv
open Go.Proofs
set_option maxRecDepth 100000
set_option maxHeartbeats 4000000
theorem rsumG (l : List Int) (h : ∀ x ∈ l, 0 ≤ x) (hl : l.length ≤ 1000) (radd : ∀ {a b : Int}, Sm a → Sm b → Sm (a + b) → d_ref01_Add a b = some (a + b, 0)) : ∀ (d k n : Nat) (acc : Int), k + d = l.length → d < n → 0 ≤ acc → acc + sm (l.drop k) ≤ 1000000000000 → d_ref01_Sum_L0 l n acc (k : Int) = some (acc + sm (l.drop k))
  | _, _, 0, _, _, hn, _, _ => by omega
  | 0, k, n + 1, acc, hk, hn, ha, hb => by
    rw [d_ref01_Sum_L0, List.drop_of_length_le (by omega)]
    exact v_F (by omega) (v_cF (by simp [sm]))
  | d + 1, k, n + 1, acc, hk, hn, ha, hb => by
    have hkl : k < l.length := by omega
    have hx : l[((k : Int)).toNat]? = some l[k] := by simp [hkl]
    have h0 := h l[k] (List.getElem_mem hkl)
    have h1 := sm_nn (l.drop (k + 1)) (fun y hy => h y (List.mem_of_mem_drop hy))
    rw [List.drop_eq_getElem_cons hkl] at hb ⊢
    simp only [sm] at hb ⊢
    have ih := rsumG l h hl radd d (k + 1) n (acc + l[k]) (by omega) (by omega) (by omega) (by omega)
    rw [d_ref01_Sum_L0]
    refine v_T (by omega) (v_cT (v_ix (by omega) hx (v_bi (radd (by omega) (by omega) (by omega)) (v_F (show ¬ ((0 : Int) ≠ 0) by decide) (v_as rfl (v_w (by omega) ?_))))))
    refine ih.trans ?_
    rw [Int.add_assoc]
theorem posL {w : List Int} (hx : ∀ x ∈ w, 1 ≤ x ∧ x ≤ 20) (hl : w.length ≤ 1000) : ∀ (d k n : Nat) (f : Bool), k + d = w.length → d < n → d_law23_CloseWaits_L1 w n f (k : Int) = some (f || decide (k < w.length)) := by
  intro d
  induction d with
  | zero =>
    intro k n f hk hn
    obtain ⟨n, rfl⟩ : ∃ m, n = m + 1 := ⟨n - 1, by omega⟩
    rw [d_law23_CloseWaits_L1]
    refine v_F (by omega) (v_cF ?_)
    rw [show decide (k < w.length) = false by simp; omega, Bool.or_false]
  | succ d ih =>
    intro k n f hk hn
    obtain ⟨n, rfl⟩ : ∃ m, n = m + 1 := ⟨n - 1, by omega⟩
    have hkl : k < w.length := by omega
    have hw : w[((k : Int)).toNat]? = some w[k] := by simp [hkl]
    have hb := hx _ (List.getElem_mem hkl)
    have ih := ih (k + 1) n true (by omega) (by omega)
    rw [d_law23_CloseWaits_L1]
    refine v_T (by omega) (v_cT (v_bi (a := false) (v_ix (by omega) hw (v_F (by omega) (v_cF (v_F (by omega) rfl)))) (v_as rfl (v_bi (a := true) ?_ (v_w (by omega) ?_)))))
    · cases f
      · exact v_cF (v_ix (by omega) hw (v_T (by omega) rfl))
      · exact v_cT rfl
    · refine ih.trans ?_
      rw [show decide (k < w.length) = true by simp [hkl], Bool.or_true, Bool.true_or]
theorem cosL {w sh pf : List Int} {s : GState} {f : Int} (hs : sh.length = w.length) (hl : w.length ≤ 1000) (hS : s.Sales = (List.range w.length).map (salD sh pf w)) : ∀ (d k n : Nat), k + d = w.length → d < n → d_law23_CloseWaits_L5 w (s, f) sh n (k : Int) = some () := by
  intro d
  induction d with
  | zero =>
    intro k n hk hn
    obtain ⟨n, rfl⟩ : ∃ m, n = m + 1 := ⟨n - 1, by omega⟩
    rw [d_law23_CloseWaits_L5]
    exact v_F (by omega) (v_cF rfl)
  | succ d ih =>
    intro k n hk hn
    obtain ⟨n, rfl⟩ : ∃ m, n = m + 1 := ⟨n - 1, by omega⟩
    have ih := ih (k + 1) n (by omega) (by omega)
    have h1 : s.Sales[((k : Int)).toNat]? = some (salD sh pf w k) := by rw [hS, Int.toNat_natCast, List.getElem?_map, List.getElem?_range (by omega)]; rfl
    have h2 : sh[((k : Int)).toNat]? = some (at0 sh k) := by rw [Int.toNat_natCast]; exact at0_get (by omega)
    rw [d_law23_CloseWaits_L5]
    exact v_T (by omega) (v_cT (v_ix (by omega) h1 (v_ix (by omega) h2 (v_F (show ¬ (at0 sh k ≠ at0 sh k) from fun h => h rfl) (v_as rfl (v_w (by omega) ih))))))
theorem worV {x : GEnt} {Q V : Int} (hr : x.Rolls.length = 1) (hP : x.Pools = [⟨lay Q V, ⟨0, 0, 0⟩⟩, ⟨[], ⟨0, 0, 0⟩⟩]) (hQ : 0 ≤ Q ∧ Q ≤ 1000) (hV : 0 ≤ V ∧ V ≤ 20000) {rc : List GReceipt} {sl : List GSale} {dn : Int} :
    ∃ a : GLayer, d_ref14_Worth 300 (sW x rc sl dn) 0 0 = some a ∧ a.Qty = Q := by
  have hA := atW x (by rw [hP]; rfl) hr rc sl dn
  have t0 : ∀ n, d_ref13_Total (n + 120) ⟨[], ⟨0, 0, 0⟩⟩ = some ⟨0, 0, 0⟩ := fun n => rtot0 (n := n + 108)
  by_cases h0 : Q = 0
  · have e : lay Q V = [] := by unfold lay; rw [if_pos h0]
    rw [e] at hP
    exact ⟨_, rworth_v (n := 170) hA (p := ⟨[], ⟨0, 0, 0⟩⟩) (q := ⟨[], ⟨0, 0, 0⟩⟩) (by rw [hP]; rfl) (by rw [hP]; rfl) t0 t0 (by dsimp only; omega) (by dsimp only; omega) (by dsimp only; omega), by dsimp only; omega⟩
  · have e : lay Q V = [⟨Q, V, 0⟩] := by unfold lay; rw [if_neg h0]
    rw [e] at hP
    have t1 : ∀ n, d_ref13_Total (n + 120) ⟨[⟨Q, V, 0⟩], ⟨0, 0, 0⟩⟩ = some ⟨0 + Q, 0 + V, 0 + 0⟩ := fun n => rtot1 (n := n + 108) (by omega) (by omega) (by omega)
    exact ⟨_, rworth_v (n := 170) hA (p := ⟨[⟨Q, V, 0⟩], ⟨0, 0, 0⟩⟩) (q := ⟨[], ⟨0, 0, 0⟩⟩) (by rw [hP]; rfl) (by rw [hP]; rfl) t1 t0 (by dsimp only; omega) (by dsimp only; omega) (by dsimp only; omega), by dsimp only; omega⟩
theorem kB {v g q : Int} (hv : 0 ≤ v ∧ v ≤ 12000) (hg : 0 ≤ g ∧ g ≤ q) (hq : 1 ≤ q ∧ q ≤ 240) : (0 ≤ v * g ∧ v * g ≤ 2880000) ∧ (0 ≤ (v * g).tdiv q ∧ (v * g).tdiv q ≤ v) := by
  have h1 : 0 ≤ v * g := Int.mul_nonneg hv.1 hg.1
  have h2 : v * g ≤ v * q := Int.mul_le_mul_of_nonneg_left hg.2 hv.1
  have h3 : v * q ≤ 12000 * 240 := Int.mul_le_mul hv.2 hq.2 (by omega) (by decide)
  have h4 := Int.tdiv_nonneg h1 (show 0 ≤ q by omega)
  refine ⟨⟨h1, by omega⟩, h4, ?_⟩
  rw [Int.tdiv_eq_ediv_of_nonneg h1]
  exact Int.ediv_le_of_le_mul (by omega) h2
theorem sm_pos : ∀ {w : List Int}, (∀ x ∈ w, 1 ≤ x ∧ x ≤ 15) → sm w = 0 → w = []
  | [], _, _ => rfl
  | x :: w, h, hs => by
    have h1 := h x (List.mem_cons_self ..)
    have h2 := sm_nn w (fun y hy => by have := h y (List.mem_cons_of_mem _ hy); omega)
    simp only [sm] at hs; omega
theorem closeWaits_plain (l sold : List Int) : d_law23_CloseWaits 300 l sold = some true := by
  obtain ⟨q, v, g, b, c, d, rc, w, dn, r1, hI⟩ := rounds l sold 12 0 300 0 0 0 0 0 0 [] [] 0 (Nat.zero_add _) (by omega) ⟨by omega, by omega, fun _ => rfl, by omega, by omega, by omega, by omega, by simp, fun x hx => (by cases hx), rfl, by simp, by omega⟩
  have hN := hI.nm (Nat.le_refl 12)
  obtain ⟨fq, fv, fz, fg, fb, fc, fd, fr, fx, fs, fl, fn⟩ := hI
  have hx20 : ∀ x ∈ w, 1 ≤ x ∧ x ≤ 20 := fun x hx => by have := fx x hx; omega
  unfold d_law23_CloseWaits
  refine v_bi start43 (v_bi r1 ?_)
  refine v_p2 (v_p2 (v_p2 (v_p2 ?_)))
  by_cases hg : 1 ≤ g
  · have hq1 : 1 ≤ q := by omega
    obtain ⟨k1, k2⟩ := kB hN.hv fg ⟨hq1, by omega⟩
    obtain ⟨k, hk⟩ : ∃ k, k = (v * g).tdiv q := ⟨_, rfl⟩
    rw [← hk] at k2
    have hW : WOk k g w := ⟨by omega, by omega, by omega, hx20, fs⟩
    obtain ⟨s, m, pf, h1, h2, h3, h4, h5⟩ := someV hN hg (rc := rc) (dn := dn) hk hW
    have hC := closG (x := en q v g b c d) (x' := xF q v g b c d k) rfl rfl h5 rfl rfl rfl (by omega)
    have hw1 : 0 < w.length := by
      rcases Nat.eq_zero_or_pos w.length with e | e
      · rw [List.eq_nil_of_length_eq_zero e] at fs; simp only [sm] at fs; omega
      · exact e
    have hL1 := posL hx20 (by omega) w.length 0 300 false (Nat.zero_add _) (by omega)
    rw [show (false || decide (0 < w.length)) = true by simp [hw1]] at hL1
    have hsu := rsumG w (fun x hx => by have := fx x hx; omega) (by omega) (fun a b c => radd_v a b c) w.length 0 300 0 (Nat.zero_add _) (by omega) (by omega) (by rw [List.drop_zero]; omega)
    rw [List.drop_zero, fs, Int.zero_add] at hsu
    have hL2 := q2L hW w.length 0 300 k (Nat.zero_add _) (by omega) (by omega) (by omega)
    rw [List.drop_zero, ← h3] at hL2
    have hL3 := docV hW (n := 300) (by omega) h1 h2 h4
    have hsl : (inc (oL k g w) (s.take m)).length = w.length := by rw [incLen]; unfold oL; rw [List.length_map]
    have hL5 := cosL (pf := pf) (s := sW ⟨1, true, (xF q v g b c d k).Pools, (xF q v g b c d k).Bal, (xF q v g b c d k).Rolls, [-1], [0], [en q v g b c d]⟩ rc ((List.range w.length).map (salD (inc (oL k g w) (s.take m)) pf w)) (dn + 1)) (f := 0) hsl (by omega) rfl w.length 0 300 (Nat.zero_add _) (by omega)
    obtain ⟨a, wo, wq⟩ := worV (x := ⟨1, true, (xF q v g b c d k).Pools, (xF q v g b c d k).Bal, (xF q v g b c d k).Rolls, [-1], [0], [en q v g b c d]⟩) (Q := q - g) (V := v - k) rfl rfl (by omega) (by omega) (rc := rc) (sl := (List.range w.length).map (salD (inc (oL k g w) (s.take m)) pf w)) (dn := dn + 1)
    refine v_bi hC (v_bi (a := false) (v_F (show ¬ ((0 : Int) ≠ 0) by decide) (v_cF (v_F (by simp [sW]) (v_cF (v_F (by simp [sW]) rfl))))) (v_as rfl (v_T (by omega) ?_)))
    refine v_bi (a := k) (v_cT (v_w (by omega) (v_as (by omega) (v_w (by rw [← hk]; omega) (by rw [← hk]))))) ?_
    refine v_bi (a := .inl (inc (oL k g w) (s.take m))) ?_ ?_
    · refine v_bi hL1 (v_bi (a := false) (v_F (by omega) (v_cF (v_F (by omega) (v_cF (v_nT rfl))))) (v_cF ?_))
      refine v_bi (a := (g, 0)) (v_bi hsu rfl) (v_F (show ¬ ((0 : Int) ≠ 0) by decide) (v_as rfl (v_bi hL2 ?_)))
      refine v_p2 (v_p2 ?_)
      exact v_bi hL3 rfl
    · refine v_selrl ?_
      refine v_bi hL5 ?_
      refine v_bi (a := true) ?_ rfl
      refine v_ix (show (0 : Int) ≤ 0 by decide) rfl (v_ix (show (0 : Int) ≤ 5 by decide) rfl (v_T rfl (v_cT ?_)))
      refine v_ix (show (0 : Int) ≤ 0 by decide) rfl (v_ix (show (0 : Int) ≤ 0 by decide) rfl (v_w (by omega) (v_T rfl (v_cT ?_))))
      refine v_ix (show (0 : Int) ≤ 0 by decide) rfl (v_ix (show (0 : Int) ≤ 0 by decide) rfl (v_T rfl (v_cT ?_)))
      exact v_bi wo (v_w (by omega) (v_T wq (v_cT (v_bi aw43 rfl))))
  · have hg0 : g = 0 := by omega
    subst hg0
    obtain rfl := sm_pos fx fs
    have hC := closG (x := en q v 0 b c d) (x' := en q v 0 b c d) rfl rfl (noneV (rc := rc) (sl := []) (dn := dn)) rfl rfl rfl (by omega)
    obtain ⟨a, wo, wq⟩ := worV (x := ⟨1, true, (en q v 0 b c d).Pools, (en q v 0 b c d).Bal, (en q v 0 b c d).Rolls, [-1], [0], [en q v 0 b c d]⟩) (Q := q) (V := v) rfl rfl (by omega) (by omega) (rc := rc) (sl := []) (dn := dn + 1)
    refine v_bi hC (v_bi (a := false) (v_F (show ¬ ((0 : Int) ≠ 0) by decide) (v_cF (v_F (by simp [sW]) (v_cF (v_F (by simp [sW]) rfl))))) (v_as rfl ?_))
    have fin : ∀ {β : Type} (x : Option Bool) (hx : x = some true) , (x.bind fun y => some y) = some true := fun x hx => by rw [hx]; rfl
    by_cases hq1 : q > 0
    · refine v_T hq1 (v_bi (a := 0) (v_cT (v_w (by rw [Int.mul_zero]; omega) (v_as (by omega) (v_w (by rw [Int.mul_zero, Int.zero_tdiv]; omega) (by rw [Int.mul_zero, Int.zero_tdiv]))))) ?_)
      refine v_bi (a := .inr ()) (v_bi (a := false) rfl (v_bi (a := true) rfl (v_cT rfl))) ?_
      refine v_selrr ?_
      refine v_bi (a := .inl ()) rfl ?_
      refine v_selb ?_
      refine v_bi (a := true) ?_ rfl
      refine v_ix (show (0 : Int) ≤ 0 by decide) rfl (v_ix (show (0 : Int) ≤ 5 by decide) rfl (v_T rfl (v_cT ?_)))
      refine v_ix (show (0 : Int) ≤ 0 by decide) rfl (v_ix (show (0 : Int) ≤ 0 by decide) rfl (v_w (by omega) (v_T (by show v = v - 0; omega) (v_cT ?_))))
      refine v_ix (show (0 : Int) ≤ 0 by decide) rfl (v_ix (show (0 : Int) ≤ 0 by decide) rfl (v_T rfl (v_cT ?_)))
      exact v_bi wo (v_w (by omega) (v_T (by omega) (v_cT (v_bi aw43 rfl))))
    · refine v_F hq1 (v_bi (a := 0) (v_cF rfl) ?_)
      refine v_bi (a := .inr ()) (v_bi (a := false) rfl (v_bi (a := true) rfl (v_cT rfl))) ?_
      refine v_selrr ?_
      refine v_bi (a := .inl ()) rfl ?_
      refine v_selb ?_
      refine v_bi (a := true) ?_ rfl
      refine v_ix (show (0 : Int) ≤ 0 by decide) rfl (v_ix (show (0 : Int) ≤ 5 by decide) rfl (v_T rfl (v_cT ?_)))
      refine v_ix (show (0 : Int) ≤ 0 by decide) rfl (v_ix (show (0 : Int) ≤ 0 by decide) rfl (v_w (by omega) (v_T (by show v = v - 0; omega) (v_cT ?_))))
      refine v_ix (show (0 : Int) ≤ 0 by decide) rfl (v_ix (show (0 : Int) ≤ 0 by decide) rfl (v_T rfl (v_cT ?_)))
      exact v_bi wo (v_w (by omega) (v_T (by omega) (v_cT (v_bi aw43 rfl))))
#print axioms closeWaits_plain
end Go.Pv
