/- ShipChains: plain law. -/
import Derived.Test.YtppokdmifjmdfaaGreatS13
import Derived.Test.YtppokdmifjmdfaaGreatPlV
set_option linter.unusedSimpArgs false
set_option linter.unusedVariables false
namespace Go.Pv
open Go.Proofs
set_option maxRecDepth 100000
set_option maxHeartbeats 1000000
theorem vauto {α : Type} {D : Option α} {r : α} (h : D = some r := by repeat (first | with_reducible exact v_end | with_reducible assumption | ((with_reducible refine v_fin ?_); (exact rfl)) | ((with_reducible refine v_w ?_ ?_); · first | omega | decide | (dsimp only; omega) | (simp; done) | (simp; omega)) | ((with_reducible refine v_wu ?_ ?_); · first | omega | decide | (dsimp only; omega) | (simp; done) | (simp; omega)) | ((with_reducible refine v_T ?_ ?_); · first | omega | decide | (dsimp only; omega) | (simp; done) | (simp; omega) | (exact of_decide_eq_true rfl)) | ((with_reducible refine v_F ?_ ?_); · first | omega | decide | (dsimp only; omega) | (simp; done) | (simp; omega) | (exact of_decide_eq_true rfl)) | with_reducible refine v_nT ?_ | with_reducible refine v_nF ?_ | with_reducible refine v_cT ?_ | with_reducible refine v_cF ?_ | ((with_reducible refine v_as ?_ ?_); · first | omega | decide | (dsimp only; omega) | (simp; done) | (simp; omega) | (exact of_decide_eq_true rfl)) | ((with_reducible apply v_ix); (first | omega | decide | (simp; done) | (dsimp only [List.length_cons, List.length_nil]; omega)); (exact rfl)) | with_reducible refine v_p2 ?_ | with_reducible refine v_selb ?_ | with_reducible refine v_sele ?_ | with_reducible refine v_selrl ?_ | with_reducible refine v_selrr ?_ | ((with_reducible refine v_ifT ?_ ?_); · first | omega | decide | (dsimp only; omega)) | ((with_reducible refine v_ifF ?_ ?_); · first | omega | decide | (dsimp only; omega)) | with_reducible refine v_bi (by assumption) ?_ | with_reducible refine v_brk ?_ | with_reducible refine v_esc ?_ | dsimp only [List.nil_append, List.cons_append] | with_reducible apply v_bi | with_reducible refine v_bnd ?_)) : D = some r := h
theorem ix_same {α : Type} {X : List α} {e : Int} {x y : α} (h : ix X e = some x) : ix (List.set X (Int.toNat e) y) e = some y := ix_set h rfl
theorem ix_other {α : Type} {X : List α} {e f : Int} {y : α} (he : 0 ≤ e) (hf : 0 ≤ f) (h : f ≠ e) : ix (List.set X (Int.toNat e) y) f = ix X f := by
  unfold ix; rw [if_neg (by omega), if_neg (by omega), List.getElem?_set_ne (by omega)]
def EI (X : List GEnt) (e : Int) (l : List GLayer) (K z : Int) : Prop := ∃ b g t r y s c R bb h u, ix X e = some (F2 (F7 l) (F3 b g t r y s c) R) ∧ (R.length : Int) = 4 ∧ ix R 1 = some ⟨0, bb, 0, h, 0, 0, u, 0, 0, 0, 0⟩ ∧ r + y = z ∧
  (-K ≤ b ∧ b ≤ K) ∧ (-K ≤ g ∧ g ≤ K) ∧ (-K ≤ t ∧ t ≤ K) ∧ (-K ≤ r ∧ r ≤ K) ∧ (-K ≤ y ∧ y ≤ K) ∧ (-K ≤ s ∧ s ≤ K) ∧ (-K ≤ c ∧ c ≤ K) ∧ (0 ≤ bb ∧ bb ≤ K) ∧ (0 ≤ h ∧ h ≤ K) ∧ (0 ≤ u ∧ u ≤ K)
theorem me_v {e : Int} (h : e = 0 ∨ e = 1) : ix ([[1, 2, 3, 4], [1, 2, 3, 4]] : List (List Int)) e = some [1, 2, 3, 4] := by rcases h with rfl | rfl <;> rfl
theorem ce_v {e : Int} (h : e = 0 ∨ e = 1) : ix ([[10, 10, 10, 10], [10, 10, 10, 10]] : List (List Int)) e = some [10, 10, 10, 10] := by rcases h with rfl | rfl <;> rfl
theorem part_v {m : Nat} {a k o : Int} (h0 : -20000 ≤ a) (h1 : a ≤ 20000) (h2 : 1 ≤ k) (h3 : k ≤ o) (h4 : o ≤ 200) : ∃ d, d_money_Part (m + 40) a k o = some d ∧ (0 ≤ a → 0 ≤ d ∧ d ≤ a) ∧ (a ≤ 0 → a ≤ d ∧ d ≤ 0) ∧ (k = o → d = a) := by
  have hI : d_money_in a = some true := by
    unfold d_money_in
    exact vauto
  by_cases hk : k = o
  · refine ⟨a, ?_, fun h => ⟨h, Int.le_refl a⟩, fun h => ⟨Int.le_refl a, h⟩, fun _ => rfl⟩
    subst hk
    unfold d_money_Part
    exact vauto
  · by_cases hn : a < 0
    · have hkn : 0 ≤ (0 - a) * k := Int.mul_nonneg (by omega) (by omega)
      have hM := muldiv_v (n := m + 28) (a := 0 - a) (b := k) (c := o) ⟨by omega, by omega⟩ ⟨by omega, by omega⟩ ⟨by omega, by omega⟩
      have q0 : 0 ≤ ((0 - a) * k).tdiv o := Int.tdiv_nonneg hkn (by omega)
      have q1 : ((0 - a) * k).tdiv o ≤ 0 - a := by
        rw [Int.tdiv_eq_ediv_of_nonneg hkn]
        exact Int.ediv_le_of_le_mul (by omega) (Int.mul_le_mul_of_nonneg_left (by omega) (by omega))
      refine ⟨0 - ((0 - a) * k).tdiv o, ?_, fun h => by omega, fun h => by omega, fun h => absurd h hk⟩
      unfold d_money_Part
      exact vauto
    · have hkn : 0 ≤ a * k := Int.mul_nonneg (by omega) (by omega)
      have hM := muldiv_v (n := m + 28) (a := a) (b := k) (c := o) ⟨by omega, by omega⟩ ⟨by omega, by omega⟩ ⟨by omega, by omega⟩
      have q0 : 0 ≤ (a * k).tdiv o := Int.tdiv_nonneg hkn (by omega)
      have q1 : (a * k).tdiv o ≤ a := by
        rw [Int.tdiv_eq_ediv_of_nonneg hkn]
        exact Int.ediv_le_of_le_mul (by omega) (Int.mul_le_mul_of_nonneg_left (by omega) (by omega))
      refine ⟨(a * k).tdiv o, ?_, fun h => ⟨q0, q1⟩, fun h => by omega, fun h => absurd h hk⟩
      unfold d_money_Part
      exact vauto
theorem ship_v {m : Nat} {X : List GEnt} {U : List GTransit} {rc : GReceipt} {e f q p v a K z z' : Int} (hX : (X.length : Int) = 2) (he : e = 0 ∨ e = 1) (hf : f = 0 ∨ f = 1) (hef : f ≠ e) (hE : EI X e [⟨q, v, a⟩] K z) (hF : EI X f [] K z') (hU : U.length ≤ 10)
    (h1 : 1 ≤ q) (h2 : q ≤ 50) (h3 : 0 ≤ p) (h4 : p < 2000) (h5 : 0 ≤ v) (h6 : v < 2000) (h7 : -5000 ≤ a) (h8 : a ≤ 5000) (hK : K ≤ 40000) :
    ∃ X', (X'.length : Int) = 2 ∧ EI X' e [] (K + 2000) (z + p) ∧ EI X' f [] (K + 2000) (z' - p) ∧ d_ship_Do (m + 40) (F1 X U rc) ⟨12, e, 1, 0, f, q, p, 0, []⟩ = some (F1 X' (U ++ [⟨e, f, 1, q, p, p - v + a⟩]) rc, 0) := by
  obtain ⟨b, g, t, r, y, s, c, R, bb, h, u, xe, hR, hr, hz, ⟨b0, b1⟩, ⟨g0, g1⟩, ⟨t0, t1⟩, ⟨r0, r1⟩, ⟨y0, y1⟩, ⟨s0, s1⟩, ⟨c0, c1⟩, ⟨bb0, bb1⟩, ⟨hh0, hh1⟩, ⟨u0, u1⟩⟩ := hE
  obtain ⟨b', g', t', r', y', s', c', R', bb', h', u', xf, hR', hr', hz', ⟨b0', b1'⟩, ⟨g0', g1'⟩, ⟨t0', t1'⟩, ⟨r0', r1'⟩, ⟨y0', y1'⟩, ⟨s0', s1'⟩, ⟨c0', c1'⟩, ⟨bb0', bb1'⟩, ⟨hh0', hh1'⟩, ⟨u0', u1'⟩⟩ := hF
  have e0 : 0 ≤ e := by omega
  have e1 : e < 2 := by omega
  have f0 : 0 ≤ f := by omega
  have f1 : f < 2 := by omega
  have sl : ∀ {X : List GEnt} {i : Int} {x : GEnt}, (X.length : Int) = 2 → ((List.set X (Int.toNat i) x).length : Int) = 2 := fun h => by rw [List.length_set]; exact h
  obtain ⟨d1, em, _, _, dm⟩ := part_v (m := m) (a := v) (k := q) (o := q) (by omega) (by omega) h1 (Int.le_refl q) (by omega)
  rw [dm rfl] at em
  obtain ⟨d2, ea, _, _, da⟩ := part_v (m := m) (a := a) (k := q) (o := q) (by omega) (by omega) h1 (Int.le_refl q) (by omega)
  rw [da rfl] at ea
  have et : d_fifo_Total (m + 40) [⟨q, v, a⟩] = some (⟨q, v, a⟩, 0) := ftA_r (m + 20) q v a h1 (by omega) h5 (by omega) (by omega) (by omega)
  have eF := feD_r m X U rc _ R e q v a hX e0 e1 (me_v he) (ce_v he) xe hR h1 h2 h5 h6 (by omega) (by omega) et em ea
  have x1 := ix_same (y := F2 (F7 []) (F3 b g t r y s c) R) xe
  have ep1 : d_stock_Post (m + 39) _ e [⟨13, p⟩, ⟨15, 0 - p⟩, ⟨16, v⟩, ⟨0, 0 - v⟩] = _ := poS_r (m + 19) _ U rc (F7 []) R e b g t r y s c (by omega) (by omega) (by omega) (by omega) (by omega) (by omega) (by omega) (by omega) (by omega) (by omega) (by omega) (by omega) (by omega) (by omega) p v h3 h4 h5 h6 (sl hX) e0 e1 x1
  have x2 := ix_same (y := F2 (F7 []) (F3 (b - v) g t (r + p) y (s - p) (c + v)) R) x1
  have xf1 : ix (List.set X (Int.toNat e) (F2 (F7 []) (F3 b g t r y s c) R)) f = _ := (ix_other e0 f0 hef).trans xf
  have xf2 := (ix_other (y := F2 (F7 []) (F3 (b - v) g t (r + p) y (s - p) (c + v)) R) e0 f0 hef).trans xf1
  have ep2 : d_stock_Post (m + 38) _ f [⟨12, p⟩, ⟨14, 0 - p⟩] = _ := poT_r (m + 18) _ U rc (F7 []) R' f b' g' t' r' y' s' c' (by omega) (by omega) (by omega) (by omega) (by omega) (by omega) (by omega) (by omega) (by omega) (by omega) (by omega) (by omega) (by omega) (by omega) p h3 h4 (sl (sl hX)) f0 f1 xf2
  have x3 := (ix_other (y := F2 (F7 []) (F3 b' g' (t' + p) r' (y' - p) s' c') R') f0 e0 (Ne.symm hef)).trans x2
  have xf3 := ix_same (y := F2 (F7 []) (F3 b' g' (t' + p) r' (y' - p) s' c') R') xf2
  have et' := tuD_r _ U rc (F7 []) _ R e bb h u 0 v (sl (sl (sl hX))) e0 e1 (me_v he) (ce_v he) x3 (by rfl) hR hr bb0 (by omega) hh0 (by omega) u0 (by omega) (by omega) (by omega) h5 h6
  have x4 := ix_same (y := F2 (F7 []) (F3 (b - v) g t (r + p) y (s - p) (c + v)) (List.set R 1 ⟨0, bb, 0, h + 0, 0, 0, u + v, 0, 0, 0, 0⟩)) x3
  have xf4 := (ix_other (y := F2 (F7 []) (F3 (b - v) g t (r + p) y (s - p) (c + v)) (List.set R 1 ⟨0, bb, 0, h + 0, 0, 0, u + v, 0, 0, 0, 0⟩)) e0 f0 hef).trans xf3
  have hD := shD_r (eF := eF) (ep1 := ep1) (ep2 := ep2) (et := et') m X _ _ _ _ U rc _ _ _ _ R R' e f q p v a hX e0 e1 f0 f1 xe xf (me_v he) (me_v hf) (ce_v he) (ce_v hf) (by rfl) (by rfl) hR hR' hU h1 h2 h3 h4 h5 h6 (by omega) (by omega)
  refine ⟨_, sl (sl (sl (sl hX))), ?_, ?_, hD⟩
  · exact ⟨_, _, _, _, _, _, _, _, bb, h + 0, u + v, x4, by rw [List.length_set]; exact hR, ix_set (i := 1) hr rfl, by omega, by omega, by omega, by omega, by omega, by omega, by omega, by omega, by omega, by omega, by omega⟩
  · exact ⟨_, _, _, _, _, _, _, _, bb', h', u', xf4, hR', hr', by omega, by omega, by omega, by omega, by omega, by omega, by omega, by omega, by omega, by omega, by omega⟩
def Lyr (q v a : Int) : List GLayer := if q = 0 then [] else [⟨q, v, a⟩]
theorem setZ {Z : List GTransit} {t t' : GTransit} {j : Int} (hj : j = (Z.length : Int)) : (Z ++ [t]).set (Int.toNat j) t' = Z ++ [t'] := by
  subst hj; simp
theorem arr_v {m : Nat} {X : List GEnt} {Z : List GTransit} {rc : GReceipt} {e g j k o w a q v b K z : Int} (hX : (X.length : Int) = 2) (he : e = 0 ∨ e = 1) (hE : EI X e (Lyr q v b) K z) (hj : j = (Z.length : Int)) (hZ : Z.length ≤ 8)
    (h1 : 1 ≤ k) (h2 : k ≤ o) (h3 : 0 ≤ w) (h4 : v + w < 2000) (h5 : 0 ≤ v) (h6 : 0 ≤ q) (h7 : q + o ≤ 50) (a0 : -5000 ≤ a) (a1 : a ≤ 5000) (b0 : -5000 ≤ b) (b1 : b ≤ 5000) (h8 : q = 0 → v = 0 ∧ b = 0) (hK : 2000 ≤ K) (hK2 : K ≤ 40000) :
    ∃ X' d c, (X'.length : Int) = 2 ∧ EI X' e (Lyr (q + k) (v + d) (b + c)) (K + d) z ∧ (∀ f, 0 ≤ f → f ≠ e → ix X' f = ix X f) ∧ 0 ≤ d ∧ d ≤ w ∧ (0 ≤ a → 0 ≤ c ∧ c ≤ a) ∧ (a ≤ 0 → a ≤ c ∧ c ≤ 0) ∧ (k = o → d = w ∧ c = a) ∧
      d_ship_Do (m + 40) (F1 X (Z ++ [⟨g, e, 1, o, w, a⟩]) rc) ⟨13, 0, 0, 0, 0, k, 0, j, []⟩ = some (F1 X' (Z ++ [⟨g, e, 1, o - k, w - d, a - c⟩]) rc, 0) := by
  obtain ⟨b', g', t, r, y, s, c', R, bb, h, u, xe, hR, hr, hz, ⟨b0', b1'⟩, ⟨g0, g1⟩, ⟨t0, t1⟩, ⟨r0, r1⟩, ⟨y0, y1⟩, ⟨s0, s1⟩, ⟨c0, c1⟩, ⟨bb0, bb1⟩, ⟨hh0, hh1⟩, ⟨u0, u1⟩⟩ := hE
  have e0 : 0 ≤ e := by omega
  have e1 : e < 2 := by omega
  have sl : ∀ {X : List GEnt} {i : Int} {x : GEnt}, (X.length : Int) = 2 → ((List.set X (Int.toNat i) x).length : Int) = 2 := fun h => by rw [List.length_set]; exact h
  obtain ⟨d, em, dn, _, dm⟩ := part_v (m := m) (a := w) (k := k) (o := o) (by omega) (by omega) h1 h2 (by omega)
  obtain ⟨c, ea, cp, cn, cm⟩ := part_v (m := m) (a := a) (k := k) (o := o) (by omega) (by omega) h1 h2 (by omega)
  have d0 := (dn h3).1
  have d1 := (dn h3).2
  have c0' : -5000 ≤ c := by
    rcases Int.le_total 0 a with hh | hh
    · have := cp hh; omega
    · have := cn hh; omega
  have c1' : c ≤ 5000 := by
    rcases Int.le_total 0 a with hh | hh
    · have := cp hh; omega
    · have := cn hh; omega
  have hqk : ¬ q + k = 0 := by omega
  have eN : Lyr (q + k) (v + d) (b + c) = [⟨q + k, v + d, b + c⟩] := by unfold Lyr; rw [if_neg hqk]
  have x1 := ix_same (y := F2 (F7 [⟨q + k, v + d, b + c⟩]) (F3 b' g' t r y s c') R) xe
  have et : ∀ n, d_fifo_Total (n + 20) [⟨q + k, v + d, b + c⟩] = some (⟨q + k, v + d, b + c⟩, 0) := fun n => ftA_r n (q + k) (v + d) (b + c) (by omega) (by omega) (by omega) (by omega) (by omega) (by omega)
  have es := sdD_r m _ (Z ++ [⟨g, e, 1, o, w, a⟩]) rc _ R e (q + k) (v + d) (b + c) (sl hX) e0 e1 (me_v he) (ce_v he) x1 hR (by omega) (by omega)
  have eb : d_stock_Bring (m + 40) (F1 X (Z ++ [⟨g, e, 1, o, w, a⟩]) rc) e 1 0 ⟨k, d, c⟩ = some (F1 (List.set X (Int.toNat e) (F2 (F7 [⟨q + k, v + d, b + c⟩]) (F3 b' g' t r y s c') R)) (Z ++ [⟨g, e, 1, o, w, a⟩]) rc, d, 0, 0) := by
    by_cases hq : q = 0
    · obtain ⟨hv, hb⟩ := h8 hq
      subst hq hv hb
      simp only [Int.zero_add] at x1 et es ⊢
      have ei := fiA_r m k d c h1 (by omega) d0 (by omega) (by omega) (by omega) (et (m + 20))
      exact brA_r (ei := ei) (ez := et (m + 20)) (ey := et (m + 19)) (ew := et (m + 20)) (es := es) m X _ rc _ R e k d c hX e0 e1 (me_v he) (ce_v he) xe hR h1 (by omega) d0 (by omega) (by omega) (by omega) x1 (sl hX)
    · have xe' : ix X e = some (F2 (F7 [⟨q, v, b⟩]) (F3 b' g' t r y s c') R) := by rw [xe]; unfold Lyr; rw [if_neg hq]
      have e2 : d_fifo_Total (m + 40) [⟨q, v, b⟩, ⟨k, d, c⟩] = some (⟨q + k, v + d, b + c⟩, 0) := ftB_r (m + 20) q v b k d c h1 (by omega) d0 (by omega) (by omega) (by omega) (by omega) (by omega) h5 (by omega) (by omega) (by omega)
      have ei := fiB_r m k d c q v b h1 (by omega) d0 (by omega) (by omega) (by omega) (by omega) (by omega) h5 (by omega) (by omega) (by omega) e2
      exact brB_r (ei := ei) (ez := e2) (ey := et (m + 19)) (ew := et (m + 20)) (es := es) m X _ rc _ R e k d c q v b hX e0 e1 (me_v he) (ce_v he) xe' hR h1 (by omega) d0 (by omega) (by omega) (by omega) (by omega) (by omega) h5 (by omega) (by omega) (by omega) x1 (sl hX)
  have ep : d_stock_Post (m + 39) _ e [⟨0, d⟩, ⟨6, 0⟩, ⟨12, 0 - d⟩] = _ := poA_r (m + 19) _ (Z ++ [⟨g, e, 1, o, w, a⟩]) rc (F7 [⟨q + k, v + d, b + c⟩]) R e b' g' t r y s c' (by omega) (by omega) (by omega) (by omega) (by omega) (by omega) (by omega) (by omega) (by omega) (by omega) (by omega) (by omega) (by omega) (by omega) d d0 (by omega) (sl hX) e0 e1 x1
  have x2 := ix_same (y := F2 (F7 [⟨q + k, v + d, b + c⟩]) (F3 (b' + d) g' (t - d) r y s c') R) x1
  have et' := tuD_r _ (Z ++ [⟨g, e, 1, o, w, a⟩]) rc (F7 [⟨q + k, v + d, b + c⟩]) _ R e bb h u d 0 (sl (sl hX)) e0 e1 (me_v he) (ce_v he) x2 (by rfl) hR hr bb0 (by omega) hh0 (by omega) u0 (by omega) d0 (by omega) (by omega) (by omega)
  have x3 := ix_same (y := F2 (F7 [⟨q + k, v + d, b + c⟩]) (F3 (b' + d) g' (t - d) r y s c') (List.set R 1 ⟨0, bb, 0, h + d, 0, 0, u + 0, 0, 0, 0, 0⟩)) x2
  have tj : ix (Z ++ [(⟨g, e, 1, o, w, a⟩ : GTransit)]) j = some ⟨g, e, 1, o, w, a⟩ := by subst hj; unfold ix; rw [if_neg (by omega)]; simp
  have p1 : ((F7 (Lyr q v b)).length : Int) = 8 := rfl
  have hD := arD_r (eb := eb) (ep := ep) (et := et') m X _ _ _ (Z ++ [⟨g, e, 1, o, w, a⟩]) rc _ _ R e g j k o w a d c hX e0 e1 (me_v he) (ce_v he) xe p1 hR (by simp; omega) (by omega) (by simp; omega) tj h1 h2 (by omega) d0 d1 (by omega) (by omega) (by omega) (by omega) (by omega) em ea
  rw [setZ hj, setZ hj, setZ hj] at hD
  refine ⟨_, d, c, sl (sl (sl hX)), ?_, fun f f0 hf => by rw [ix_other e0 f0 hf, ix_other e0 f0 hf, ix_other e0 f0 hf], d0, d1, cp, cn, fun hk => ⟨dm hk, cm hk⟩, hD⟩
  rw [eN]
  exact ⟨_, _, _, _, _, _, _, _, bb, h + d, u + 0, x3, by rw [List.length_set]; exact hR, ix_set (i := 1) hr rfl, by omega, by omega, by omega, by omega, by omega, by omega, by omega, by omega, by omega, by omega, by omega⟩
theorem iloop {α σ τ : Type} (l : List α) (F : Nat → Int → σ → Option τ) (g : σ → α → σ) (fin : σ → τ) (P : σ → List α → Prop)
    (hstep : ∀ n j s x r, P s (x :: r) → 0 ≤ j → j < (l.length : Int) → ix l j = some x → F (n + 1) j s = F n (j + 1) (g s x) ∧ P (g s x) r)
    (hstop : ∀ n j s, ¬ j < (l.length : Int) → F (n + 1) j s = some (fin s)) :
    ∀ (r pre : List α) (n : Nat) (s : σ), l = pre ++ r → r.length < n → P s r → F n (pre.length : Int) s = some (fin (r.foldl g s))
  | [], pre, 0, s, e, hn, hP => absurd hn (Nat.not_lt_zero _)
  | [], pre, n + 1, s, e, hn, hP => hstop n _ s (by subst e; simp)
  | x :: r, pre, 0, s, e, hn, hP => absurd hn (Nat.not_lt_zero _)
  | x :: r, pre, n + 1, s, e, hn, hP => by
    have hlt : pre.length < l.length := by subst e; simp
    have hix : ix l (pre.length : Int) = some x := by
      unfold ix; rw [if_neg (by omega)]; subst e; simp
    obtain ⟨h1, h2⟩ := hstep n (pre.length : Int) s x r hP (by omega) (by omega) hix
    rw [h1]
    have := iloop l F g fin P hstep hstop r (pre ++ [x]) n (g s x) (by simp [e]) (by simp at hn; omega) h2
    simpa using this
theorem EI_mono {X : List GEnt} {e : Int} {l : List GLayer} {K K' z : Int} (h : EI X e l K z) (hk : K ≤ K') : EI X e l K' z := by
  obtain ⟨b, g, t, r, y, s, c, R, bb, h', u, xe, hR, hr, hz, p1, p2, p3, p4, p5, p6, p7, p8, p9, p10⟩ := h
  exact ⟨b, g, t, r, y, s, c, R, bb, h', u, xe, hR, hr, hz, by omega, by omega, by omega, by omega, by omega, by omega, by omega, by omega, by omega, by omega⟩
theorem EI_ix {X X' : List GEnt} {e : Int} {l : List GLayer} {K z : Int} (h : EI X e l K z) (hx : ix X' e = ix X e) : EI X' e l K z := by
  obtain ⟨b, g, t, r, y, s, c, R, bb, h', u, xe, q⟩ := h
  exact ⟨b, g, t, r, y, s, c, R, bb, h', u, hx.trans xe, q⟩
theorem worth_v {n : Nat} {X : List GEnt} {U : List GTransit} {rc : GReceipt} {e q v a K z : Int} (hX : (X.length : Int) = 2) (he : e = 0 ∨ e = 1) (hE : EI X e (Lyr q v a) K z) (h0 : q = 0 → v = 0 ∧ a = 0) (h1 : 0 ≤ q) (h2 : q ≤ 50) (h3 : 0 ≤ v) (h4 : v < 2000) (h5 : -5000 ≤ a) (h6 : a ≤ 5000) :
    d_ref14_Worth (n + 20) (F1 X U rc) e 1 = some ⟨q, v, a⟩ := by
  obtain ⟨b, g, t, r, y, s, c, R, bb, h', u, xe, -⟩ := hE
  by_cases hq : q = 0
  · obtain ⟨rfl, rfl⟩ := h0 hq
    subst hq
    exact woE_r n X U rc _ R e hX (by omega) (by omega) xe
  · unfold Lyr at xe; rw [if_neg hq] at xe
    exact woF_r n X U rc _ R e q v a hX (by omega) (by omega) xe (by omega) (by omega) h3 (by omega) (by omega) (by omega)
def Zro (Z : List GTransit) : Prop := ∀ t ∈ Z, t.Item = 1 ∧ t.Profit = 0
theorem z_foldl {Z : List GTransit} (h : Zro Z) : ∀ s : Int, Z.foldl (fun s t => s + t.Profit) s = s := by
  induction Z with
  | nil => intro s; rfl
  | cons x r ih => intro s; rw [List.foldl_cons, (h x (List.mem_cons_self ..)).2, Int.add_zero]; exact ih (fun t ht => h t (List.mem_cons_of_mem _ ht)) s
theorem all_v {m : Nat} {X : List GEnt} {Z : List GTransit} {rc : GReceipt} {e f o w a q v b q' v' b' g K K' z z' : Int} (hX : (X.length : Int) = 2) (he : e = 0 ∨ e = 1) (hf : f = 0 ∨ f = 1) (hef : f ≠ e) (hE : EI X e (Lyr q v b) K z) (hF : EI X f (Lyr q' v' b') K' z') (hZ : Zro Z) (hl : Z.length ≤ 8)
    (a0 : -5000 ≤ a) (a1 : a ≤ 5000) (h0 : q = 0 → v = 0 ∧ b = 0) (h1 : 0 ≤ q) (h2 : q ≤ 50) (h3 : 0 ≤ v) (h4 : v < 2000) (h5 : -5000 ≤ b) (h6 : b ≤ 5000) (k0 : q' = 0 → v' = 0 ∧ b' = 0) (k1 : 0 ≤ q') (k2 : q' ≤ 50) (k3 : 0 ≤ v') (k4 : v' < 2000) (k5 : -5000 ≤ b') (k6 : b' ≤ 5000) :
    d_law20_all (m + 40) (F1 X (Z ++ [⟨f, e, 1, o, w, a⟩]) rc) = some (b + b' + a) ∧ d_law20_all (m + 40) (F1 X (Z ++ [⟨e, f, 1, o, w, a⟩]) rc) = some (b + b' + a) := by
  have key : ∀ (t : GTransit), t.Item = 1 → t.Profit = a → d_law20_all (m + 40) (F1 X (Z ++ [t]) rc) = some (b + b' + a) := by
    intro t ht hta
    have hL := iloop (Z ++ [t]) (fun n j s => d_law20_all_L2 (F1 X (Z ++ [t]) rc) n s j) (fun s t => s + t.Profit) (fun s => s) (fun s r => (∀ t ∈ r, t.Item = 1 ∧ -5000 ≤ t.Profit ∧ t.Profit ≤ 5000) ∧ r.length ≤ 9 ∧ -50000 + 5000 * (9 - r.length : Int) * -1 ≤ s ∧ s ≤ 50000 + 5000 * (9 - r.length : Int))
      (fun n j s x r hP j0 j1 hx => by
        obtain ⟨p1, p2, p3, p4⟩ := hP
        obtain ⟨x1, x2, x3⟩ := p1 x (List.mem_cons_self ..)
        simp only [List.length_cons] at p2 p3 p4
        have hxx : x = ⟨x.From, x.To, 1, x.Qty, x.Value, x.Profit⟩ := by cases x; simp at x1; subst x1; rfl
        rw [hxx] at hx
        have hlen : ((Z ++ [t]).length : Int) ≤ 9 := by simp; omega
        exact ⟨amA_r n X _ rc s j x.From x.To x.Qty x.Value x.Profit j0 (by omega) j1 hx (by omega) (by omega) (by omega) (by omega), fun y hy => p1 y (List.mem_cons_of_mem _ hy), by omega, by omega, by omega⟩)
      (fun n j s hj => amB_r n X _ rc s j hj) (Z ++ [t]) [] (m + 40) (b + b') rfl (by simp; omega) ⟨fun y hy => by
        rcases List.mem_append.1 hy with h | h
        · have := hZ y h; omega
        · simp at h; subst h; exact ⟨ht, by omega, by omega⟩, by simp; omega, by simp; omega, by simp; omega⟩
    rw [List.foldl_append, z_foldl hZ] at hL
    have hL : d_law20_all_L2 (F1 X (Z ++ [t]) rc) (m + 40) (b + b') 0 = some (b + b' + t.Profit) := hL
    rw [hta] at hL
    obtain ⟨B1, g1, t1, r1, y1, s1, c1, R1, bb1, h1', u1, xe, -⟩ := id hE
    obtain ⟨B2, g2, t2, r2, y2, s2, c2, R2, bb2, h2', u2, xf, -⟩ := id hF
    have W : ∀ n, d_ref14_Worth (n + 20) (F1 X (Z ++ [t]) rc) e 1 = some ⟨q, v, b⟩ := fun n => worth_v hX he hE h0 h1 h2 h3 h4 h5 h6
    have W' : ∀ n, d_ref14_Worth (n + 20) (F1 X (Z ++ [t]) rc) f 1 = some ⟨q', v', b'⟩ := fun n => worth_v hX hf hF k0 k1 k2 k3 k4 k5 k6
    rcases he with rfl | rfl
    · obtain rfl : f = 1 := by omega
      exact alD_r m X _ rc q v b q' v' b' (b + b' + a) hX (by omega) (by omega) (by omega) (by omega) (wo0_r (m + 18) X _ rc _ _ _ 0 hX (by omega) (by omega) xe) (wo0_r (m + 17) X _ rc _ _ _ 1 hX (by omega) (by omega) xf) (W (m + 17)) (W' (m + 16)) (wo2_r (m + 16) X _ rc _ _ _ 0 hX (by omega) (by omega) xe) (wo2_r (m + 15) X _ rc _ _ _ 1 hX (by omega) (by omega) xf) (wo3_r (m + 15) X _ rc _ _ _ 0 hX (by omega) (by omega) xe) (wo3_r (m + 14) X _ rc _ _ _ 1 hX (by omega) (by omega) xf) hL
    · obtain rfl : f = 0 := by omega
      rw [Int.add_comm b b'] at hL ⊢
      exact alD_r m X _ rc q' v' b' q v b (b' + b + a) hX (by omega) (by omega) (by omega) (by omega) (wo0_r (m + 18) X _ rc _ _ _ 0 hX (by omega) (by omega) xf) (wo0_r (m + 17) X _ rc _ _ _ 1 hX (by omega) (by omega) xe) (W' (m + 17)) (W (m + 16)) (wo2_r (m + 16) X _ rc _ _ _ 0 hX (by omega) (by omega) xf) (wo2_r (m + 15) X _ rc _ _ _ 1 hX (by omega) (by omega) xe) (wo3_r (m + 15) X _ rc _ _ _ 0 hX (by omega) (by omega) xf) (wo3_r (m + 14) X _ rc _ _ _ 1 hX (by omega) (by omega) xe) hL
  exact ⟨key _ rfl rfl, key _ rfl rfl⟩
theorem ix_in {l : List Int} {j : Int} (h0 : 0 ≤ j) (h1 : j < (l.length : Int)) : ∃ y, ix l j = some y ∧ y ∈ l := by
  have h2 : j.toNat < l.length := by omega
  refine ⟨l[j.toNat], ?_, List.getElem_mem h2⟩
  unfold ix; rw [if_neg (by omega), List.getElem?_eq_getElem h2]
theorem in_loop {l : List Int} {Z : List GTransit} {rc : GReceipt} {e f j n p A K' KK z z' : Int} (hw : ∀ x ∈ l, -9223372036854775808 ≤ x ∧ x ≤ 9223372036854775807) (he : e = 0 ∨ e = 1) (hf : f = 0 ∨ f = 1) (hef : f ≠ e) (hj : j = (Z.length : Int)) (hZ : Zro Z) (hj8 : j < 8)
    (n0 : 1 ≤ n) (n1 : n ≤ 50) (p0 : 0 ≤ p) (p1 : p < 2000) (A0 : -5000 ≤ A) (A1 : A ≤ 5000) (hKK : KK ≤ 40000) :
    ∀ (cc m : Nat) (o w a q v b K i : Int) (X : List GEnt), (X.length : Int) = 2 → EI X e (Lyr q v b) K z → EI X f [] K' z' → q + o = n → v + w = p → b + a = A → 0 ≤ q → 0 ≤ o → 0 ≤ w → 0 ≤ v → (q = 0 → v = 0 ∧ b = 0) → (o = 0 → w = 0 ∧ a = 0) → (0 ≤ A → 0 ≤ a ∧ a ≤ A) → (A ≤ 0 → A ≤ a ∧ a ≤ 0) → 2000 ≤ K → K + w ≤ KK → 0 ≤ i → i ≤ 5 → (i = 5 → o = 0) → (5 - i).toNat ≤ cc →
      ∃ X', (X'.length : Int) = 2 ∧ EI X' e (Lyr n p A) KK z ∧ EI X' f [] K' z' ∧ d_law20_ShipChains_L1 l j A (m + cc + 41) o i (F1 X (Z ++ [⟨f, e, 1, o, w, a⟩]) rc) = some (.inl (0, F1 X' (Z ++ [⟨f, e, 1, 0, 0, 0⟩]) rc))
  | cc, m, o, w, a, q, v, b, K, i, X, hX, hE, hF, hqo, hvw, hba, q0, o0, w0, v0, hq0, ho0, hA0, hA1, hK, hK2, i0, i1, i5, ic => by
    by_cases ho : o = 0
    · obtain ⟨rfl, rfl⟩ := ho0 ho
      subst ho
      have e1 : q = n := by omega
      have e2 : v = p := by omega
      have e3 : b = A := by omega
      subst e1 e2 e3
      exact ⟨X, hX, EI_mono hE (by omega), hF, inE_r l (m + cc) j _ i _⟩
    · cases cc with
      | zero => omega
      | succ cc =>
        have hi : i < 5 := by
          rcases Int.lt_or_le i 5 with h | h
          · exact h
          · exact absurd (i5 (by omega)) ho
        have step : ∀ k, 1 ≤ k → k ≤ o → (i = 4 → k = o) → (∀ S1, d_ship_Do (m + (cc + 1) + 40) (F1 X (Z ++ [⟨f, e, 1, o, w, a⟩]) rc) ⟨13, 0, 0, 0, 0, k, 0, j, []⟩ = some (S1, 0) → d_law20_all (m + (cc + 1) + 40) S1 = some A → d_law20_ShipChains_L1 l j A (m + (cc + 1) + 41) o i (F1 X (Z ++ [⟨f, e, 1, o, w, a⟩]) rc) = d_law20_ShipChains_L1 l j A (m + (cc + 1) + 40) (o - k) (i + 1) S1) →
            ∃ X', (X'.length : Int) = 2 ∧ EI X' e (Lyr n p A) KK z ∧ EI X' f [] K' z' ∧ d_law20_ShipChains_L1 l j A (m + (cc + 1) + 41) o i (F1 X (Z ++ [⟨f, e, 1, o, w, a⟩]) rc) = some (.inl (0, F1 X' (Z ++ [⟨f, e, 1, 0, 0, 0⟩]) rc)) := by
          intro k k0 k1 k4 hst
          have ha5 : -5000 ≤ a ∧ a ≤ 5000 := by
            rcases Int.le_total 0 A with hh | hh
            · have := hA0 hh; omega
            · have := hA1 hh; omega
          have hb5 : -5000 ≤ b ∧ b ≤ 5000 := by
            rcases Int.le_total 0 A with hh | hh
            · have := hA0 hh; omega
            · have := hA1 hh; omega
          obtain ⟨X', d, c, hX', hE', hoth, d0, d1, cp, cn, hko, hD⟩ := arr_v (m := m + (cc + 1)) (X := X) (Z := Z) (rc := rc) (g := f) (j := j) (k := k) (o := o) (w := w) (a := a) hX he hE hj (by omega) k0 k1 w0 (by omega) v0 q0 (by omega) ha5.1 ha5.2 hb5.1 hb5.2 hq0 hK (by omega)
          have hF' := EI_ix hF (hoth f (by omega) hef)
          have hac : (0 ≤ A → 0 ≤ a - c ∧ a - c ≤ A) ∧ (A ≤ 0 → A ≤ a - c ∧ a - c ≤ 0) := by
            refine ⟨fun hh => ?_, fun hh => ?_⟩
            · have h1 := hA0 hh; have h2 := cp h1.1; omega
            · have h1 := hA1 hh; have h2 := cn h1.2; omega
          have hac5 : -5000 ≤ a - c ∧ a - c ≤ 5000 := by
            rcases Int.le_total 0 A with hh | hh
            · have := hac.1 hh; omega
            · have := hac.2 hh; omega
          have hbc5 : -5000 ≤ b + c ∧ b + c ≤ 5000 := by
            rcases Int.le_total 0 A with hh | hh
            · have := hac.1 hh; omega
            · have := hac.2 hh; omega
          have hF0 : EI X' f (Lyr 0 0 0) K' z' := hF'
          have hAll := (all_v (m := m + (cc + 1)) (rc := rc) (o := o - k) (w := w - d) (a := a - c) (g := 0) hX' he hf hef hE' hF0 hZ (by omega) hac5.1 hac5.2 (by omega) (by omega) (by omega) (by omega) (by omega) hbc5.1 hbc5.2 (fun _ => ⟨rfl, rfl⟩) (by omega) (by omega) (by omega) (by omega) (by omega) (by omega)).1
          rw [show b + c + 0 + (a - c) = A from by omega] at hAll
          rw [hst _ hD hAll, show m + (cc + 1) + 40 = m + cc + 41 from by omega]
          exact in_loop hw he hf hef hj hZ hj8 n0 n1 p0 p1 A0 A1 hKK cc m (o - k) (w - d) (a - c) (q + k) (v + d) (b + c) (K + d) (i + 1) X' hX' hE' hF' (by omega) (by omega) (by omega) (by omega) (by omega) (by omega) (by omega) (by omega) (fun h => by have := hko (by omega); omega) hac.1 hac.2 (by omega) (by omega) (by omega) (by omega) (fun h => by have := k4 (by omega); omega) (by omega)
        by_cases hl : 4 * j + i < (l.length : Int) ∧ i < 4
        · obtain ⟨y, hy, hm⟩ := ix_in (by omega) hl.1
          obtain ⟨r, e2, r0, r1⟩ := place_e (n := o) (by omega) (hw y hm)
          refine step (r + 1) (by omega) (by omega) (by omega) fun S1 hD hA => ?_
          exact inA_r l (m + (cc + 1)) j A o i y (r + 1) _ S1 (by omega) hj8 i0 hl.2 (by omega) (by omega) (by omega) hl.1 hy (by rw [e2]; congr 1; omega) hD hA
        · refine step o (by omega) (Int.le_refl o) (fun _ => rfl) fun S1 hD hA => ?_
          rw [Int.sub_self]
          exact inB_r l (m + (cc + 1)) j A o i _ S1 (by omega) hj8 i0 hi (by omega) (by omega) (by omega) hD hA
theorem top_loop {l l2 : List Int} {rc : GReceipt} {n : Int} (hw : ∀ x ∈ l, -9223372036854775808 ≤ x ∧ x ≤ 9223372036854775807) (hw2 : ∀ x ∈ l2, -9223372036854775808 ≤ x ∧ x ≤ 9223372036854775807) (n0 : 1 ≤ n) (n1 : n ≤ 50) :
    ∀ (cc m : Nat) (v k j K z : Int) (X : List GEnt) (Z : List GTransit), (X.length : Int) = 2 → EI X (Int.tmod j 2) [⟨n, v, k⟩] K z → EI X (1 - Int.tmod j 2) [] K (0 - z) → Zro Z → j = (Z.length : Int) → k = v - 10 * n → 0 ≤ v → v < 2000 → K = 2000 + 4000 * j → 0 ≤ j → j ≤ 8 → (8 - j).toNat ≤ cc →
      ∃ X' Z' a b z', (X'.length : Int) = 2 ∧ EI X' 0 a 40000 z' ∧ EI X' 1 b 40000 (0 - z') ∧ d_law20_ShipChains_L0 l l2 n (m + 6 + cc + 41) v k j (F1 X Z rc) = some (.inl (F1 X' Z' rc))
  | cc, m, v, k, j, K, z, X, Z, hX, hE, hF, hZ, hj, hk, v0, v1, hK, j0, j8, jc => by
    have ht : Int.tmod j 2 = j % 2 := Int.tmod_eq_emod_of_nonneg j0
    have ht1 : Int.tmod (j + 1) 2 = (j + 1) % 2 := Int.tmod_eq_emod_of_nonneg (by omega)
    have he : Int.tmod j 2 = 0 ∨ Int.tmod j 2 = 1 := by omega
    have hf : 1 - Int.tmod j 2 = 0 ∨ 1 - Int.tmod j 2 = 1 := by omega
    have hef : 1 - Int.tmod j 2 ≠ Int.tmod j 2 := by omega
    by_cases hl : j < (l.length : Int) ∧ j < 8
    · cases cc with
      | zero => omega
      | succ cc =>
        obtain ⟨y, hy, hm⟩ := ix_in j0 hl.1
        obtain ⟨p, e1, p0, p1⟩ := place_e (n := 2000) (by decide) (hw y hm)
        obtain ⟨X1, hX1, hE1, hF1, hD⟩ := ship_v (m := m + 6 + (cc + 1)) (U := Z) (rc := rc) (p := p) hX he hf hef hE hF (by omega) n0 n1 p0 p1 v0 v1 (by omega) (by omega) (by omega)
        have hE0 : EI X1 (Int.tmod j 2) (Lyr 0 0 0) (K + 2000) (z + p) := hE1
        have hF0 : EI X1 (1 - Int.tmod j 2) (Lyr 0 0 0) (K + 2000) (0 - z - p) := hF1
        have hA := (all_v (m := m + 6 + (cc + 1)) (rc := rc) (o := n) (w := p) (a := p - v + k) (g := 0) hX1 hf he (Ne.symm hef) hF0 hE0 hZ (by omega) (by omega) (by omega) (fun _ => ⟨rfl, rfl⟩) (by omega) (by omega) (by omega) (by omega) (by omega) (by omega) (fun _ => ⟨rfl, rfl⟩) (by omega) (by omega) (by omega) (by omega) (by omega) (by omega)).1
        obtain ⟨X2, hX2, hF2, hE2, hI⟩ := in_loop (l := l2) (Z := Z) (rc := rc) (j := j) (n := n) (p := p) (A := p - v + k) (KK := K + 4000) hw2 hf he (Ne.symm hef) hj hZ hl.2 n0 n1 p0 p1 (by omega) (by omega) (by omega) 5 (m + cc + 1) n p (p - v + k) 0 0 0 (K + 2000) 0 X1 hX1 hF0 hE1 (by omega) (by omega) (by omega) (by omega) (by omega) p0 (by omega) (fun _ => ⟨rfl, rfl⟩) (by omega) (by omega) (by omega) (by omega) (by omega) (by omega) (by omega) (by omega) (by decide)
        have hW := worth_v (n := m + 6 + (cc + 1) + 20) (U := Z ++ [⟨Int.tmod j 2, 1 - Int.tmod j 2, 1, 0, 0, 0⟩]) (rc := rc) hX2 hf hF2 (by omega) (by omega) n1 p0 p1 (by omega) (by omega)
        rw [show 0 + 0 + (p - v + k) = k + p - v from by omega] at hA
        rw [show p - v + k = k + p - v from by omega] at hD hA hI hF2 hW
        rw [show m + cc + 1 + 5 + 41 = m + 6 + (cc + 1) + 40 from by omega] at hI
        rw [tpA_r (eD := hD) (eA := hA) (eL := hI) (eW := hW) l l2 (m + 6 + (cc + 1)) n v k j y p _ (F1 X Z rc) _ _ (by omega) (by omega) j0 hl.2 hl.1 v0 v1 p0 p1 (by omega) (by omega) n0 n1 hy e1, show m + 6 + (cc + 1) + 40 = m + 6 + cc + 41 from by omega]
        have eL : Lyr n p (k + p - v) = [⟨n, p, k + p - v⟩] := by unfold Lyr; rw [if_neg (by omega)]
        rw [eL] at hF2
        refine top_loop hw hw2 n0 n1 cc m p (k + p - v) (j + 1) (K + 4000) (0 - z - p) X2 _ hX2 ?_ ?_ ?_ (by simp; omega) (by omega) p0 p1 (by omega) (by omega) (by omega) (by omega)
        · rw [show Int.tmod (j + 1) 2 = 1 - Int.tmod j 2 from by omega]; exact hF2
        · rw [show 1 - Int.tmod (j + 1) 2 = Int.tmod j 2 from by omega, show 0 - (0 - z - p) = z + p from by omega]; exact EI_mono hE2 (by omega)
        · intro t ht
          rcases List.mem_append.1 ht with h | h
          · exact hZ t h
          · simp at h; subst h; exact ⟨rfl, rfl⟩
    · have hx := tpB_r l l2 (m + 6 + cc) n v k j (F1 X Z rc) (by omega)
      rcases he with h | h
      · rw [h] at hE hF
        exact ⟨X, Z, _, _, z, hX, EI_mono hE (by omega), EI_mono hF (by omega), hx⟩
      · rw [h] at hE hF
        exact ⟨X, Z, _, _, 0 - z, hX, EI_mono hF (by omega), by rw [show 0 - (0 - z) = z from by omega]; exact EI_mono hE (by omega), hx⟩
theorem mut_v {X : List GEnt} {U : List GTransit} {rc : GReceipt} {a b : List GLayer} {z : Int} (hX : (X.length : Int) = 2) (h0 : EI X 0 a 40000 z) (h1 : EI X 1 b 40000 (0 - z)) : d_ref24_Mutual 80 (F1 X U rc) = some true := by
  obtain ⟨b0, g0, t0, r0, y0, s0, c0, R0, _, _, _, x0, _, _, z0, _, _, _, ⟨p1, p2⟩, ⟨p3, p4⟩, _⟩ := h0
  obtain ⟨b1, g1, t1, r1, y1, s1, c1, R1, _, _, _, x1, _, _, z1, _, _, _, ⟨q1, q2⟩, ⟨q3, q4⟩, _⟩ := h1
  exact muD_r 60 X U rc _ _ R0 R1 b0 g0 t0 r0 y0 s0 c0 b1 g1 t1 r1 y1 s1 c1 hX x0 x1 (by omega) (by omega) (by omega) (by omega) (by omega) (by omega) (by omega) (by omega) (by omega)
theorem aw20 : d_law20_awake 80 = some true := by decide +kernel
theorem shipChains_plain {a : Int} {l l2 : List Int} (ha : -9223372036854775808 ≤ a ∧ a ≤ 9223372036854775807) (hw : ∀ x ∈ l, -9223372036854775808 ≤ x ∧ x ≤ 9223372036854775807) (hw2 : ∀ x ∈ l2, -9223372036854775808 ≤ x ∧ x ≤ 9223372036854775807) : d_law20_ShipChains 80 a l l2 = some true := by
  obtain ⟨p, e1, p0, p1⟩ := place_e (n := 50) (by decide) ha
  have hS := stD_r (1 + p) (by omega) (by omega)
  obtain ⟨X', Z', a', b', z', hX', h0, h1, hL⟩ := top_loop (l := l) (l2 := l2) (rc := ⟨0, 1, 0, 1 + p, 10 * (1 + p), 1 + p, 10 * (1 + p), 0⟩) (n := 1 + p) hw hw2 (by omega) (by omega) 8 25 (10 * (1 + p)) 0 0 2000 0 _ [] (by rfl)
    (⟨10 * (1 + p), 0 - 10 * (1 + p), 0, 0, 0, 0, 0, _, 10 * (1 + p), 0, 0, rfl, rfl, rfl, by omega, by omega, by omega, by omega, by omega, by omega, by omega, by omega, by omega, by omega, by omega⟩ : EI [F2 (F7 [⟨1 + p, 10 * (1 + p), 0⟩]) (F3 (10 * (1 + p)) (0 - 10 * (1 + p)) 0 0 0 0 0) [⟨0, 0, 0, 0, 0, 0, 0, 0, 0, 0, 0⟩, ⟨0, 10 * (1 + p), 0, 0, 0, 0, 0, 0, 0, 0, 0⟩, ⟨0, 0, 0, 0, 0, 0, 0, 0, 0, 0, 0⟩, ⟨0, 0, 0, 0, 0, 0, 0, 0, 0, 0, 0⟩], F2 (F7 []) (F3 0 0 0 0 0 0 0) [⟨0, 0, 0, 0, 0, 0, 0, 0, 0, 0, 0⟩, ⟨0, 0, 0, 0, 0, 0, 0, 0, 0, 0, 0⟩, ⟨0, 0, 0, 0, 0, 0, 0, 0, 0, 0, 0⟩, ⟨0, 0, 0, 0, 0, 0, 0, 0, 0, 0, 0⟩]] (Int.tmod 0 2) _ 2000 0)
    (⟨0, 0, 0, 0, 0, 0, 0, _, 0, 0, 0, rfl, rfl, rfl, by omega, by omega, by omega, by omega, by omega, by omega, by omega, by omega, by omega, by omega, by omega⟩) (fun t ht => nomatch ht) rfl (by omega) (by omega) (by omega) (by omega) (by omega) (by omega) (by decide)
  have hL : d_law20_ShipChains_L0 l l2 (1 + p) 80 (10 * (1 + p)) 0 0 _ = _ := hL
  have hM := mut_v (U := Z') (rc := ⟨0, 1, 0, 1 + p, 10 * (1 + p), 1 + p, 10 * (1 + p), 0⟩) hX' h0 h1
  have hA := aw20
  unfold d_law20_ShipChains
  exact vauto
end Go.Pv
