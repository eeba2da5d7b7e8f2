/- ReceiveMany: the plain law. -/
import Derived.Test.YtpbcnilkippahaaGreatF45
set_option linter.unusedSimpArgs false
set_option linter.unusedVariables false
namespace Go.Pv
set_option maxRecDepth 100000
set_option maxHeartbeats 1000000
theorem aw45 : d_law15_awake 300 = some true := by decide +kernel
theorem st45 : d_law15_start 300 = some (St [mkX (fun _ => []) (fun _ => 0) 0 0 0, mkX (fun _ => []) (fun _ => 0) 0 0 0] []) := by kernel_rfl
theorem pl45 {v n : Int} (hn : 0 < n ∧ n ≤ 4611686018427387904) : ∃ r, d_law00_Place v n = some r ∧ 0 ≤ r ∧ r < n := by
  have h2 : (v.tmod n) < n ∧ -n < v.tmod n := by
    have := Int.tmod_lt_of_pos v hn.1
    have h3 := Int.lt_tmod_of_pos v hn.1
    omega
  by_cases h : v.tmod n < 0
  · refine ⟨v.tmod n + n, ?_, by omega, by omega⟩
    unfold d_law00_Place
    refine v_as (by omega) (v_bnd (v_T h (v_bi (a := v.tmod n + n) (v_cT (v_w (by omega) rfl)) rfl)))
  · refine ⟨v.tmod n, ?_, by omega, by omega⟩
    unfold d_law00_Place
    refine v_as (by omega) (v_bnd (v_F h (v_bi (a := v.tmod n) (v_cF rfl) rfl)))
theorem md {a n : Int} (ha : 0 ≤ a) (h : 0 < n) : 0 ≤ a.tmod n ∧ a.tmod n < n := ⟨Int.tmod_nonneg n ha, Int.tmod_lt_of_pos a h⟩
theorem dv {a n : Int} (ha : 0 ≤ a) (h : 0 ≤ n) : 0 ≤ a.tdiv n ∧ a.tdiv n ≤ a := ⟨Int.tdiv_nonneg ha h, Int.tdiv_le_self n ha⟩
theorem many0 (l : List Int) : ∀ (d k n c : Nat) (x0 x1 : GEnt) (rc : List GReceipt) (w0 a0 w1 a1 : Int), k + d = 35 → d + 201 < n → rc.length = c → c ≤ k → EntOk x0 w0 a0 (3000 * k) → EntOk x1 w1 a1 (3000 * k) →
    ∃ (x0' x1' : GEnt) (rc' : List GReceipt) (w0' a0' w1' a1' : Int), d_law15_ReceiveMany_L0 l n (c : Int) (k : Int) (St [x0, x1] rc) w0 a0 w1 a1 = some (St [x0', x1'] rc', w0', a0', w1', a1') ∧ EntOk x0' w0' a0' 105000 ∧ EntOk x1' w1' a1' 105000
  | _, _, 0, _, _, _, _, _, _, _, _, _, hn, _, _, _, _ => by omega
  | 0, k, n + 1, c, x0, x1, rc, w0, a0, w1, a1, hk, hn, hc, hck, h0, h1 => by
    obtain rfl : k = 35 := by omega
    refine ⟨x0, x1, rc, w0, a0, w1, a1, ?_, h0, h1⟩
    rw [d_law15_ReceiveMany_L0]
    refine v_bi (a := false) ?_ (v_cF rfl)
    by_cases h : ((35 : Nat) : Int) < (l.length : Int)
    · exact v_T h (v_cT (v_F (by omega) rfl))
    · exact v_F h (v_cF rfl)
  | d + 1, k, n + 1, c, x0, x1, rc, w0, a0, w1, a1, hk, hn, hc, hck, h0, h1 => by
    have e35 : ∀ {x : GEnt} {w a : Int} (j : Nat), 3000 * (k : Int) + 3000 * j ≤ 105000 → EntOk x w a (3000 * k) → EntOk x w a (3000 * k + 3000 * j) := by
      intro x w a j
      induction j with
      | zero => intro _ h; simpa using h
      | succ j ih => intro hj h; have := (ih (by omega) h).mono; rwa [show 3000 * (k : Int) + 3000 * ((j + 1 : Nat) : Int) = 3000 * (k : Int) + 3000 * (j : Int) + 3000 by omega]
    rw [d_law15_ReceiveMany_L0]
    by_cases h : (k : Int) < (l.length : Int)
    case neg =>
      have e := e35 (x := x0) (w := w0) (a := a0) (35 - k) (by omega) h0
      have f := e35 (x := x1) (w := w1) (a := a1) (35 - k) (by omega) h1
      rw [show 3000 * (k : Int) + 3000 * ((35 - k : Nat) : Int) = 105000 by omega] at e f
      exact ⟨x0, x1, rc, w0, a0, w1, a1, v_bi (a := false) (v_F h (v_cF rfl)) (v_cF rfl), e, f⟩
    have hkl : k < l.length := by omega
    have hx : l[((k : Int)).toNat]? = some l[k] := by simp [hkl]
    obtain ⟨p, hp, p0, p1⟩ := pl45 (v := l[k]) (n := 16777216) (by decide)
    have m2 := md p0 (show (0 : Int) < 2 by decide)
    have d2 := dv p0 (show (0 : Int) ≤ 2 by decide)
    have m4 := md d2.1 (show (0 : Int) < 4 by decide)
    have d8 := dv p0 (show (0 : Int) ≤ 8 by decide)
    have m8 := md d8.1 (show (0 : Int) < 2 by decide)
    have d16 := dv p0 (show (0 : Int) ≤ 16 by decide)
    have m30 := md d16.1 (show (0 : Int) < 30 by decide)
    have d480 := dv p0 (show (0 : Int) ≤ 480 by decide)
    have m2000 := md d480.1 (show (0 : Int) < 2000 by decide)
    obtain ⟨m, rfl⟩ : ∃ m, n = m + 200 := ⟨n - 200, by omega⟩
    have ih := fun c x0 x1 rc w0 a0 w1 a1 => many0 l d (k + 1) (m + 200) c x0 x1 rc w0 a0 w1 a1 (by omega) (by omega)
    have hcast : (3000 * (k : Int) + 3000) = 3000 * ((k + 1 : Nat) : Int) := by omega
    suffices hs : ∃ (x0' x1' : GEnt) (rc' : List GReceipt) (w0' a0' w1' a1' : Int), _ = some (St [x0', x1'] rc', w0', a0', w1', a1') ∧ EntOk x0' w0' a0' 105000 ∧ EntOk x1' w1' a1' 105000 by
      obtain ⟨x0', x1', rc', w0', a0', w1', a1', g1, g2, g3⟩ := hs
      exact ⟨x0', x1', rc', w0', a0', w1', a1', v_bi (a := true) (v_T h (v_cT (v_T (by omega) rfl))) (v_cT g1), g2, g3⟩
    generalize hE : p.tmod 2 = e at m2
    generalize hI : (p.tdiv 2).tmod 4 = i at m4
    generalize hK : (p.tdiv 8).tmod 2 = kk at m8
    generalize hQ : (p.tdiv 16).tmod 30 = qq at m30
    generalize hV : (p.tdiv 480).tmod 2000 = v at m2000
    have hq : 1 ≤ 1 + qq ∧ 1 + qq ≤ 30 := by omega
    have hE' : e = 0 ∨ e = 1 := by omega
    have head : ∀ {β : Type} (F : Int → Int → Int → Int → Int → Option β) {r : Option β}, F e i kk (1 + qq) v = r →
        ((ix l (k : Int)).bind fun x10 => (d_law00_Place x10 16777216).bind fun x11 => bnd (x11.tmod 2) fun x12 => bnd (w64 (x11.tdiv 2)) fun x13 => bnd (x13.tmod 4) fun x14 => bnd (w64 (x11.tdiv 8)) fun x15 => bnd (x15.tmod 2) fun x16 => bnd (w64 (x11.tdiv 16)) fun x17 => bnd (x17.tmod 30) fun x18 => bnd (w64 (1 + x18)) fun x19 => bnd (w64 (x11.tdiv 480)) fun x20 => bnd (x20.tmod 2000) fun x21 => F x12 x14 x16 x19 x21) = r := by
      intro β F r hF
      refine v_ix (by omega) hx (v_bi hp (v_bnd (v_w (by omega) (v_bnd (v_w (by omega) (v_bnd (v_w (by omega) (v_bnd (v_w ?_ (v_w (by omega) (v_bnd ?_)))))))))))
      · rw [hQ]; omega
      · rw [hE, hI, hK, hQ, hV]; exact hF
    have hl : ∀ r : GReceipt, (rc ++ [r])[((c : Int)).toNat]? = some r := fun r => by
      have : ((c : Int)).toNat = rc.length := by omega
      rw [this]; simp
    have hB : 0 ≤ 3000 * (k : Int) ∧ 3000 * (k : Int) ≤ 200000 := by omega
    rcases hE' with rfl | rfl
    · rcases round (X := [x0, x1]) (rc := rc) (e := 0) (i := i) (k := kk) (q := 1 + qq) (v := v) (n := m) rfl (.inl rfl) rfl h0 m4 (by omega) hq m2000 hB (by omega) with ⟨hi, hr⟩ | ⟨x', hx', hr⟩
      · subst hi
        obtain ⟨y0, y1, rc', a, b, c', d', g1, g2, g3⟩ := ih c x0 x1 rc w0 a0 w1 a1 hc (by omega) (by rw [← hcast]; exact h0.mono) (by rw [← hcast]; exact h1.mono)
        refine ⟨y0, y1, rc', a, b, c', d', ?_, g2, g3⟩
        refine v_bi (a := ((c : Int), St [x0, x1] rc, w0, a0, w1, a1)) ?_ ?_
        · refine head _ ?_
          exact v_bi hr (v_bi (a := true) (v_T rfl (v_cT (v_T rfl rfl))) (v_cT rfl))
        · refine v_p2 (v_p2 (v_p2 (v_p2 (v_p2 (v_w (by omega) g1)))))
      · have hset : ([x0, x1] : List GEnt).set (0 : Int).toNat x' = [x', x1] := rfl
        rw [hset] at hr
        obtain ⟨y0, y1, rc', a, b, c', d', g1, g2, g3⟩ := ih (c + 1) x' x1 (rc ++ [⟨0, i, kk, 1 + qq, v, 1 + qq, v, 0⟩]) (w0 + car (i + 1) (1 + qq) v) (a0 + v) w1 a1 (by simp [hc]) (by omega) (by rw [← hcast]; exact hx') (by rw [← hcast]; exact h1.mono)
        refine ⟨y0, y1, rc', a, b, c', d', ?_, g2, g3⟩
        have hw0 := h0.w0; have ha0 := h0.a0
        have hcar : 0 ≤ car (i + 1) (1 + qq) v ∧ car (i + 1) (1 + qq) v ≤ 3000 := by unfold car; split <;> omega
        refine v_bi (a := ((c : Int) + 1, St [x', x1] (rc ++ [⟨0, i, kk, 1 + qq, v, 1 + qq, v, 0⟩]), w0 + car (i + 1) (1 + qq) v, a0 + v, w1, a1)) ?_ ?_
        · refine head _ ?_
          refine v_bi hr (v_bi (a := false) (v_F (show ¬ ((0 : Int) = 6) by decide) (v_cF rfl)) (v_cF ?_))
          refine v_bi (a := false) (v_F (show ¬ ((0 : Int) ≠ 0) by decide) (v_cF (v_w (by omega) (v_F (by show ¬ (((rc ++ [_]).length : Int) ≠ (c : Int) + 1); simp; omega) (v_cF (v_F (show ¬ (((2 : Nat) : Int) ≠ 2) by decide) rfl)))))) (v_as rfl (v_bnd ?_))
          refine v_bi (a := car (i + 1) (1 + qq) v) ?_ ?_
          · by_cases hi3 : i = 3
            · rw [decide_eq_true hi3]
              refine v_cT (v_w (by omega) ?_)
              unfold car; rw [if_pos (by omega), Int.mul_comm]
            · rw [decide_eq_false hi3]
              refine v_cF ?_
              unfold car; rw [if_neg (by omega)]
          · refine v_T rfl (v_cT (v_w (by omega) (v_w (by omega) (v_w (by omega) (v_w (by omega) ?_)))))
            rw [show (c : Int) + 1 - 1 = (c : Int) by omega]
            refine v_ix (by omega) (hl _) ?_
            exact v_bnd (v_as (by simp) rfl)
        · refine v_p2 (v_p2 (v_p2 (v_p2 (v_p2 (v_w (by omega) g1)))))
    · rcases round (X := [x0, x1]) (rc := rc) (e := 1) (i := i) (k := kk) (q := 1 + qq) (v := v) (n := m) rfl (.inr rfl) rfl h1 m4 (by omega) hq m2000 hB (by omega) with ⟨hi, hr⟩ | ⟨x', hx', hr⟩
      · subst hi
        obtain ⟨y0, y1, rc', a, b, c', d', g1, g2, g3⟩ := ih c x0 x1 rc w0 a0 w1 a1 hc (by omega) (by rw [← hcast]; exact h0.mono) (by rw [← hcast]; exact h1.mono)
        refine ⟨y0, y1, rc', a, b, c', d', ?_, g2, g3⟩
        refine v_bi (a := ((c : Int), St [x0, x1] rc, w0, a0, w1, a1)) ?_ ?_
        · refine head _ ?_
          exact v_bi hr (v_bi (a := true) (v_T rfl (v_cT (v_T rfl rfl))) (v_cT rfl))
        · refine v_p2 (v_p2 (v_p2 (v_p2 (v_p2 (v_w (by omega) g1)))))
      · have hset : ([x0, x1] : List GEnt).set (1 : Int).toNat x' = [x0, x'] := rfl
        rw [hset] at hr
        obtain ⟨y0, y1, rc', a, b, c', d', g1, g2, g3⟩ := ih (c + 1) x0 x' (rc ++ [⟨1, i, kk, 1 + qq, v, 1 + qq, v, 0⟩]) w0 a0 (w1 + car (i + 1) (1 + qq) v) (a1 + v) (by simp [hc]) (by omega) (by rw [← hcast]; exact h0.mono) (by rw [← hcast]; exact hx')
        refine ⟨y0, y1, rc', a, b, c', d', ?_, g2, g3⟩
        have hw0 := h1.w0; have ha0 := h1.a0
        have hcar : 0 ≤ car (i + 1) (1 + qq) v ∧ car (i + 1) (1 + qq) v ≤ 3000 := by unfold car; split <;> omega
        refine v_bi (a := ((c : Int) + 1, St [x0, x'] (rc ++ [⟨1, i, kk, 1 + qq, v, 1 + qq, v, 0⟩]), w0, a0, w1 + car (i + 1) (1 + qq) v, a1 + v)) ?_ ?_
        · refine head _ ?_
          refine v_bi hr (v_bi (a := false) (v_F (show ¬ ((0 : Int) = 6) by decide) (v_cF rfl)) (v_cF ?_))
          refine v_bi (a := false) (v_F (show ¬ ((0 : Int) ≠ 0) by decide) (v_cF (v_w (by omega) (v_F (by show ¬ (((rc ++ [_]).length : Int) ≠ (c : Int) + 1); simp; omega) (v_cF (v_F (show ¬ (((2 : Nat) : Int) ≠ 2) by decide) rfl)))))) (v_as rfl (v_bnd ?_))
          refine v_bi (a := car (i + 1) (1 + qq) v) ?_ ?_
          · by_cases hi3 : i = 3
            · rw [decide_eq_true hi3]
              refine v_cT (v_w (by omega) ?_)
              unfold car; rw [if_pos (by omega), Int.mul_comm]
            · rw [decide_eq_false hi3]
              refine v_cF ?_
              unfold car; rw [if_neg (by omega)]
          · refine v_F (show ¬ ((1 : Int) = 0) by decide) (v_cF (v_as rfl (v_w (by omega) (v_w (by omega) (v_w (by omega) (v_w (by omega) ?_))))))
            rw [show (c : Int) + 1 - 1 = (c : Int) by omega]
            refine v_ix (by omega) (hl _) ?_
            exact v_bnd (v_as (by simp) rfl)
        · refine v_p2 (v_p2 (v_p2 (v_p2 (v_p2 (v_w (by omega) g1)))))
theorem receiveMany_plain (l : List Int) : d_law15_ReceiveMany 300 l = some true := by
  have hp0 : PoolOk (fun _ => []) (3000 * ((0 : Nat) : Int)) := ⟨(fun j _ x hx => by cases hx), (fun j _ => by show (0 : Int) ≤ _; decide), (fun j _ => by show (0 : Int) ≤ _; decide), (fun j _ => by show 0 ≤ 30; decide), (fun j _ _ => by show 0 ≤ 1; decide)⟩
  have hz : EntOk (mkX (fun _ => []) (fun _ => 0) 0 0 0) 0 0 (3000 * ((0 : Nat) : Int)) := ⟨⟨fun _ => [], fun _ => 0, 0, rfl, hp0, rfl, by decide, (fun j _ => by show (0 : Int) ≤ 0 ∧ (0 : Int) ≤ _; decide)⟩, by decide, by decide⟩
  obtain ⟨x0, x1, rc, w0, a0, w1, a1, hL, h0, h1⟩ := many0 l 35 0 300 0 _ _ [] 0 0 0 0 rfl (by omega) rfl (Nat.le_refl 0) hz hz
  obtain ⟨⟨P, R, p, rfl, hP, hs, hp, hR⟩, b1, b2⟩ := h0
  obtain ⟨⟨P', R', p', rfl, hP', hs', hp', hR'⟩, b3, b4⟩ := h1
  have A0 := all_v (n := 94) (X := [mkX P R w0 (-a0) p, mkX P' R' w1 (-a1) p']) (rc := rc) rfl (.inl rfl) rfl hP (by omega)
  have A1 := all_v (n := 93) (X := [mkX P R w0 (-a0) p, mkX P' R' w1 (-a1) p']) (rc := rc) rfl (.inr rfl) rfl hP' (by omega)
  unfold d_law15_ReceiveMany
  refine v_bi st45 (v_bi hL (v_p2 (v_p2 (v_p2 (v_p2 (v_bi (a := ()) ?_ (v_bi aw45 rfl)))))))
  rw [d_law15_ReceiveMany_L1]
  refine v_T (by decide) (v_cT (v_bi (a := 0) ?_ (v_w (by decide) ?_)))
  · refine v_ix (v := mkX P R w0 (-a0) p) (by decide) rfl (v_T rfl (v_cT ?_))
    refine v_bi (a := false) (v_ix (v := w0) (by decide) rfl (v_F (by simp) (v_cF (v_ix (v := -a0) (by decide) rfl (v_w (by omega) (v_F (by omega) (v_cF (v_bi A0 ?_)))))))) (v_as rfl rfl)
    exact v_F (by rw [hs]; simp) rfl
  · rw [d_law15_ReceiveMany_L1]
    refine v_T (by decide) (v_cT (v_bi (a := 1) ?_ (v_w (by decide) ?_)))
    · refine v_ix (v := mkX P' R' w1 (-a1) p') (by decide) rfl (v_F (by decide) (v_cF (v_as rfl ?_)))
      refine v_bi (a := false) (v_ix (v := w1) (by decide) rfl (v_F (by simp) (v_cF (v_ix (v := -a1) (by decide) rfl (v_w (by omega) (v_F (by omega) (v_cF (v_bi A1 ?_)))))))) (v_as rfl rfl)
      exact v_F (by rw [hs']; simp) rfl
    · rw [d_law15_ReceiveMany_L1]
      exact v_F (by decide) (v_cF rfl)
end Go.Pv
