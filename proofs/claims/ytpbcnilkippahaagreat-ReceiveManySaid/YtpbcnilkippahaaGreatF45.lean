/- ReceiveMany: a pool that is full; the document's sums; the plain law. -/
import Derived.Test.YtpbcnilkippahaaGreatE45
set_option linter.unusedSimpArgs false
set_option linter.unusedVariables false
namespace Go.Pv
set_option maxRecDepth 100000
set_option maxHeartbeats 1000000
theorem rec_f {X : List GEnt} {rc : List GReceipt} {e k q v : Int} {P : Nat → List GLayer} {R : Nat → Int} {w g p : Int} {n : Nat} (hX : X.length = 2) (he : e = 0 ∨ e = 1) (hx : X[e.toNat]? = some (mkX P R w g p)) (hk : 0 ≤ k ∧ k ≤ 1)
    (hq : 1 ≤ q ∧ q ≤ 30) (hv : 0 ≤ v ∧ v < 2000) (hrc : rc.length < 40) (hf : (P k.toNat).length = 30) : d_receive_Do n (St X rc) ⟨1, e, 0, k, 0, q, v, 0, []⟩ = some (St X rc, 6) := by
  have hA := at_e (rc := rc) hX he hx (i := 0) (by omega)
  have h1 := place_s hA hk
  have e0 : 0 ≤ e := by omega
  have hj : ((0 : Int) * 2 + k).toNat < 8 := by omega
  have hp : (mkX P R w g p).Pools[((0 : Int) * 2 + k).toNat]? = some (zp (P k.toNat)) := by
    have := mkP_at P hj
    simp only [Int.zero_mul, Int.zero_add] at this ⊢; exact this
  have hin := pinF hf (pd := ⟨0, 0, 0⟩) hq.1 hv.1 (n := n)
  have hb : d_stock_Bring n (St X rc) e 0 k ⟨q, v, 0⟩ = some (St X rc, 0, 0, 6) := by
    unfold d_stock_Bring
    refine v_bi h1 (v_F (by omega) (v_as rfl (v_ix e0 hA.hm (v_ix (Int.le_refl 0) hA.him (v_ix e0 hA.hc (v_ix (Int.le_refl 0) hA.hic (v_ix e0 hA.hx (v_ix (by omega) hp (v_bi hin ?_)))))))))
    exact v_T (show ((6 : Int) ≠ 0) by decide) (v_cT rfl)
  have hr := ready_v hA rfl
  unfold d_receive_Do
  refine v_F (show ¬ ((1 : Int) ≠ 1) by decide) (v_cF (v_bi (a := (St X rc, 6)) ?_ ?_))
  · refine v_bi (v_bi hr rfl) (v_F (show ¬ ((0 : Int) ≠ 0) by decide) (v_cF ?_))
    refine v_bi (a := ()) (v_F (by show ¬ ((rc.length : Int) ≥ 40); omega) (v_as rfl rfl)) (v_F (show ¬ ((0 : Int) ≠ 0) by decide) (v_cF ?_))
    refine v_bi (v_bi hb rfl) (v_p2 (v_p2 (v_p2 ?_)))
    exact v_T (show ((6 : Int) ≠ 0) by decide) (v_cT rfl)
  · refine v_p2 ?_
    exact v_T (show ((6 : Int) ≠ 0) by decide) (v_cT rfl)
theorem rtotG (l : List GLayer) (h : LOk l) (hl : l.length ≤ 1000) : ∀ (d k n : Nat) (a b : Int), k + d = l.length → d < n → 0 ≤ a → a + sq (l.drop k) ≤ 1000000000 → 0 ≤ b → b + sv (l.drop k) ≤ 1000000000 →
    d_ref09_Total_L0 l n (k : Int) ⟨a, b, 0⟩ = some ⟨a + sq (l.drop k), b + sv (l.drop k), 0⟩
  | _, _, 0, _, _, _, hn, _, _, _, _ => by omega
  | 0, k, n + 1, a, b, hk, hn, _, _, _, _ => by
    rw [d_ref09_Total_L0, List.drop_of_length_le (by omega)]
    exact v_F (by omega) (v_cF (by simp [sq, sv]))
  | d + 1, k, n + 1, a, b, hk, hn, ha, ha2, hb, hb2 => by
    have hkl : k < l.length := by omega
    have hx : l[((k : Int)).toNat]? = some l[k] := by simp [hkl]
    have h0 := h l[k] (List.getElem_mem hkl)
    have hr : LOk (l.drop (k + 1)) := fun y hy => h y (List.mem_of_mem_drop hy)
    have h1 := (sq_nn hr).1
    have h2 := sv_nn hr
    rw [List.drop_eq_getElem_cons hkl] at ha2 hb2 ⊢
    simp only [sq, sv] at ha2 hb2 ⊢
    have ih := rtotG l h hl d (k + 1) n (a + l[k].Qty) (b + l[k].Value) (by omega) (by omega) (by omega) (by omega) (by omega) (by omega)
    have z : d_ref01_Add 0 l[k].Profit = some (0, 0) := by rw [h0.2.2]; exact radd_v (by decide) (by decide) (by decide)
    have y1 : d_ref01_Add a l[k].Qty = some (a + l[k].Qty, 0) := radd_v (by omega) (by omega) (by omega)
    have y2 : d_ref01_Add b l[k].Value = some (b + l[k].Value, 0) := radd_v (by omega) (by omega) (by omega)
    rw [d_ref09_Total_L0]
    refine v_T (by omega) (v_cT (v_ix (by omega) hx (v_bi y1 (v_ix (by omega) hx (v_bi y2 (v_ix (by omega) hx (v_bi z ?_)))))))
    refine v_bi (a := false) (v_F (show ¬ ((0 : Int) ≠ 0) by decide) (v_cF (v_F (show ¬ ((0 : Int) ≠ 0) by decide) (v_cF (v_F (show ¬ ((0 : Int) ≠ 0) by decide) rfl))))) (v_as rfl (v_w (by omega) ?_))
    refine ih.trans ?_
    rw [Int.add_assoc, Int.add_assoc]
theorem rtotL {l : List GLayer} (h : LOk l) (hl : l.length ≤ 100) (hq : sq l ≤ 1000000000) (hv : sv l ≤ 1000000000) {n : Nat} (hn : 100 < n) : d_ref13_Total n (zp l) = some ⟨sq l, sv l, 0⟩ := by
  have := rtotG l h (by omega) l.length 0 n 0 0 (by omega) (by omega) (Int.le_refl 0) (by rw [List.drop_zero]; omega) (Int.le_refl 0) (by rw [List.drop_zero]; omega)
  rw [List.drop_zero, Int.zero_add, Int.zero_add] at this
  unfold d_ref13_Total d_ref09_Total
  exact v_bi (v_bi this rfl) rfl
def V2 (P : Nat → List GLayer) (k : Nat) : Int := sv (P (2 * k)) + sv (P (2 * k + 1))
theorem all_step {X : List GEnt} {rc : List GReceipt} {e : Int} {P : Nat → List GLayer} {R : Nat → Int} {w g p B : Int} (hX : X.length = 2) (he : e = 0 ∨ e = 1) (hx : X[e.toNat]? = some (mkX P R w g p)) (hP : PoolOk P B) (hB : B ≤ 200000) (k : Nat) (hk : k < 4) (n : Nat) (acc : List Int) (ha : acc.length ≤ 10) :
    d_ref14_All_L0 (St X rc) e (n + 200 + 1) (k : Int) acc = d_ref14_All_L0 (St X rc) e (n + 200) ((k + 1 : Nat) : Int) (acc ++ [V2 P k]) := by
  have hA := at_e (rc := rc) hX he hx (i := (k : Int)) (by omega)
  have a0 : ((k : Int) * 2 + 0).toNat < 8 := by omega
  have a1 : ((k : Int) * 2 + (0 + 1)).toNat < 8 := by omega
  have q0 := hP.q _ a0; have q1 := hP.q _ a1; have v0 := hP.v _ a0; have v1 := hP.v _ a1
  have n0 := hP.n _ a0; have n1 := hP.n _ a1
  have nq0 := (sq_nn (hP.ok _ a0)).1; have nq1 := (sq_nn (hP.ok _ a1)).1; have nv0 := sv_nn (hP.ok _ a0); have nv1 := sv_nn (hP.ok _ a1)
  have hw := rworth_v (n := n + 70) hA (mkP_at P a0) (mkP_at P a1) (fun m => rtotL (hP.ok _ a0) (by omega) (by omega) (by omega) (by omega)) (fun m => rtotL (hP.ok _ a1) (by omega) (by omega) (by omega) (by omega)) (by dsimp only; omega) (by dsimp only; omega) (by dsimp only; decide)
  rw [d_ref14_All_L0]
  refine v_T (by show (k : Int) < 4; omega) (v_cT (v_bi hw (v_bnd (v_as (by simp; omega) (v_w (by omega) ?_)))))
  have e0 : ((k : Int) * 2 + 0).toNat = 2 * k := by omega
  have e1 : ((k : Int) * 2 + (0 + 1)).toNat = 2 * k + 1 := by omega
  show d_ref14_All_L0 (St X rc) e (n + 200) ((k : Int) + 1) (acc ++ [0 + sv (P ((k : Int) * 2 + 0).toNat) + sv (P ((k : Int) * 2 + (0 + 1)).toNat)]) = _
  rw [e0, e1, Int.zero_add]; rfl
theorem all_v {X : List GEnt} {rc : List GReceipt} {e : Int} {P : Nat → List GLayer} {R : Nat → Int} {w g p B : Int} (hX : X.length = 2) (he : e = 0 ∨ e = 1) (hx : X[e.toNat]? = some (mkX P R w g p)) (hP : PoolOk P B) (hB : B ≤ 200000) {n : Nat} : d_ref14_All (n + 205) (St X rc) e = some (sP P) := by
  have hn : ∀ j, j < 8 → 0 ≤ sv (P j) ∧ sv (P j) ≤ 200000 := fun j hj => ⟨sv_nn (hP.ok j hj), by have := hP.v j hj; omega⟩
  have b0 := hn 0 (by omega); have b1 := hn 1 (by omega); have b2 := hn 2 (by omega); have b3 := hn 3 (by omega); have b4 := hn 4 (by omega); have b5 := hn 5 (by omega); have b6 := hn 6 (by omega); have b7 := hn 7 (by omega)
  have h0 := all_step (rc := rc) hX he hx hP hB 0 (by omega) (n + 4) [] (by simp)
  have h1 := all_step (rc := rc) hX he hx hP hB 1 (by omega) (n + 3) ([] ++ [V2 P 0]) (by simp)
  have h2 := all_step (rc := rc) hX he hx hP hB 2 (by omega) (n + 2) ([] ++ [V2 P 0] ++ [V2 P 1]) (by simp)
  have h3 := all_step (rc := rc) hX he hx hP hB 3 (by omega) (n + 1) ([] ++ [V2 P 0] ++ [V2 P 1] ++ [V2 P 2]) (by simp)
  have h4 : d_ref14_All_L0 (St X rc) e (n + 1 + 200) ((4 : Nat) : Int) ([] ++ [V2 P 0] ++ [V2 P 1] ++ [V2 P 2] ++ [V2 P 3]) = some ([] ++ [V2 P 0] ++ [V2 P 1] ++ [V2 P 2] ++ [V2 P 3]) := by
    rw [d_ref14_All_L0]
    exact v_F (by show ¬ ((4 : Int) < 4); omega) (v_cF rfl)
  have hL := h0.trans (h1.trans (h2.trans (h3.trans h4)))
  have u0 : V2 P 0 = sv (P 0) + sv (P 1) := rfl
  have u1 : V2 P 1 = sv (P 2) + sv (P 3) := rfl
  have u2 : V2 P 2 = sv (P 4) + sv (P 5) := rfl
  have u3 : V2 P 3 = sv (P 6) + sv (P 7) := rfl
  have hs : d_ref01_Sum (n + 205) ([] ++ [V2 P 0] ++ [V2 P 1] ++ [V2 P 2] ++ [V2 P 3]) = some (sP P, 0) := by
    have hb : ∀ x ∈ ([V2 P 0, V2 P 1, V2 P 2, V2 P 3] : List Int), 0 ≤ x := by
      intro x hx
      simp only [List.mem_cons, List.not_mem_nil, or_false] at hx
      rcases hx with rfl | rfl | rfl | rfl <;> (simp only [u0, u1, u2, u3]; omega)
    have hsum : sm [V2 P 0, V2 P 1, V2 P 2, V2 P 3] = sP P := by simp only [sm, u0, u1, u2, u3, sP]; omega
    have hle : sP P ≤ 1000000000000 := by unfold sP; omega
    have := rsumG [V2 P 0, V2 P 1, V2 P 2, V2 P 3] hb (by simp) (fun ha hb h => radd_v ha hb h) 4 0 (n + 205) 0 rfl (by omega) (Int.le_refl 0) (by rw [List.drop_zero, hsum]; omega)
    rw [List.drop_zero, Int.zero_add, hsum] at this
    unfold d_ref01_Sum
    exact v_bi this rfl
  unfold d_ref14_All
  exact v_bi hL (v_bi hs rfl)
structure EntOk (x : GEnt) (w a B : Int) : Prop where
  ex : ∃ P R p, x = mkX P R w (-a) p ∧ PoolOk P B ∧ sP P = w ∧ (-B ≤ p ∧ p ≤ B) ∧ ∀ j, j < 4 → 0 ≤ R j ∧ R j ≤ B
  w0 : 0 ≤ w ∧ w ≤ B
  a0 : 0 ≤ a ∧ a ≤ B
theorem EntOk.mono {x : GEnt} {w a B : Int} (h : EntOk x w a B) : EntOk x w a (B + 3000) := by
  obtain ⟨⟨P, R, p, h1, h2, h3, h4, h5⟩, h6, h7⟩ := h
  exact ⟨⟨P, R, p, h1, ⟨h2.ok, fun j hj => by have := h2.q j hj; omega, fun j hj => by have := h2.v j hj; omega, h2.n, h2.one⟩, h3, by omega, fun j hj => by have := h5 j hj; omega⟩, by omega, by omega⟩
theorem round {X : List GEnt} {rc : List GReceipt} {e i k q v : Int} {x : GEnt} {w a B : Int} {n : Nat} (hX : X.length = 2) (he : e = 0 ∨ e = 1) (hx : X[e.toNat]? = some x) (hE : EntOk x w a B) (hi : 0 ≤ i ∧ i < 4) (hk : 0 ≤ k ∧ k ≤ 1)
    (hq : 1 ≤ q ∧ q ≤ 30) (hv : 0 ≤ v ∧ v < 2000) (hB : 0 ≤ B ∧ B ≤ 200000) (hrc : rc.length < 40) :
    (i = 0 ∧ d_receive_Do (n + 200) (St X rc) ⟨1, e, i, k, 0, q, v, 0, []⟩ = some (St X rc, 6)) ∨
    ∃ x', EntOk x' (w + car (i + 1) q v) (a + v) (B + 3000) ∧ d_receive_Do (n + 200) (St X rc) ⟨1, e, i, k, 0, q, v, 0, []⟩ = some (St (X.set e.toNat x') (rc ++ [⟨e, i, k, q, v, q, v, 0⟩]), 0) := by
  obtain ⟨⟨P, R, p, rfl, hP, hs, hp, hR⟩, h6, h7⟩ := hE
  by_cases hf : i = 0 ∧ (P k.toNat).length = 30
  · obtain ⟨rfl, hf⟩ := hf
    exact .inl ⟨rfl, rec_f hX he hx hk hq hv hrc hf⟩
  · refine .inr ⟨_, ?_, rec_v hX he hx hi hk hq hv hP hB h6 (by omega) hp hR hrc hf⟩
    have hj : (i * 2 + k).toNat < 8 := by omega
    obtain ⟨hn1, hn2, hn3, hn4, hn5, hn6⟩ := newL_ok (m := i + 1) (hP.ok _ hj) hq.1 hv.1
    have hcar : car (i + 1) q v ≤ 3000 := by unfold car; split <;> omega
    have hnl := hP.n _ hj
    have hql := hP.q _ hj
    have hvl := hP.v _ hj
    have hl30 : (P (i * 2 + k).toNat).length < 30 := by
      by_cases h0 : i = 0
      · subst h0
        have : ¬ (P k.toNat).length = 30 := fun h => hf ⟨rfl, h⟩
        simp only [Int.zero_mul, Int.zero_add] at hnl ⊢; omega
      · have := hP.one (i * 2 + k).toNat (by omega) hj; omega
    refine ⟨⟨_, _, _, by rw [show -a + (0 - v) = -(a + v) by omega], upP_ok hP hj hn1 (by omega) (by omega) (by omega) (fun h => hn5 (by omega)), ?_, by omega, ?_⟩, by omega, by omega⟩
    · rw [sP_up P hj, hn3, hs]; omega
    · intro j hj4
      unfold upP
      split
      · have := hR i.toNat (by omega); omega
      · have := hR j hj4; omega
end Go.Pv
