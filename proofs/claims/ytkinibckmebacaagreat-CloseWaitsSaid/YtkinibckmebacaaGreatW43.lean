/- CloseWaits: the close of any such state; its rounds. -/
import Derived.Test.YtkinibckmebacaaGreatX43
set_option linter.unusedSimpArgs false
set_option linter.unusedVariables false
namespace Go.Pv
open Go.Proofs
set_option maxRecDepth 100000
set_option maxHeartbeats 4000000
theorem aw43 : d_law23_awake 300 = some true := by decide +kernel
theorem etaE (x : GEnt) : (⟨x.Now, x.Closed, x.Pools, x.Bal, x.Rolls, x.Prices, x.Down, x.Ahead⟩ : GEnt) = x := by cases x; rfl
theorem markV {x : GEnt} (hp : x.Prices = [-1]) (hd : x.Down = [0]) (hb : x.Bal.length = 17) {rc : List GReceipt} {sl : List GSale} {dn : Int} {n : Nat} : d_nrv_Mark (n + 200) (sW x rc sl dn) 0 = some (sW x rc sl dn, 0) := by
  have h0 : d_nrv_Mark_L0 x 1 (n + 200) 0 = some () := by
    rw [d_nrv_Mark_L0]
    refine v_T (by decide) (v_cT (v_ix (v := -1) (by decide) (by rw [hp]; rfl) (v_F (by decide) (v_as rfl (v_w (by decide) ?_)))))
    rw [d_nrv_Mark_L0]
    exact v_F (by decide) (v_cF rfl)
  have hpo : d_stock_Post (n + 200) (sW x rc sl dn) 0 [] = some (sW x rc sl dn, 0) := by
    refine (post_v (s := sW x rc sl dn) (e := 0) (x := x) (by decide) rfl (by simp [sW]) (ppB (n := n + 188)) (glB (n := n + 186) hb)).trans ?_
    rw [etaE]; rfl
  unfold d_nrv_Mark
  refine v_bi (a := false) (v_F (by decide) (v_cF (v_F (by simp [sW]) rfl))) (v_as rfl (v_ix (v := x) (show (0 : Int) ≤ 0 by decide) rfl ?_))
  refine v_as (show x.Down.length ≤ 68719476736 by rw [hd]; simp) ?_
  refine v_eq (v := 1) (by rw [hp, hd]; rfl) ?_
  refine v_bi h0 (v_bi hpo (v_F (show ¬ ((0 : Int) ≠ 0) by decide) (v_as rfl (v_as (by simp [sW]) (v_ix (v := x) (by decide) rfl ?_)))))
  show some (sW ⟨x.Now, x.Closed, x.Pools, x.Bal, x.Rolls, x.Prices, x.Down, x.Ahead⟩ rc sl dn, (0 : Int)) = _
  rw [etaE]
theorem closG {x x' : GEnt} {rc : List GReceipt} {sl sl' : List GSale} {dn : Int} (hc : x.Closed = false) {p0 p1 : GPool} (hP : x.Pools = [p0, p1]) (hL : d_close_Close_L1 0 0 [p0, p1] 299 0 (sW x rc sl dn) = some (sW x' rc sl' dn))
    (hp : x'.Prices = [-1]) (hd : x'.Down = [0]) (hb : x'.Bal.length = 17) (hdn : 0 ≤ dn ∧ dn ≤ 1000) :
    d_close_Step 300 (sW x rc sl dn) ⟨14, 0, 0, 0, 0, 0, 0, 0, []⟩ = some (sW ⟨x'.Now, true, x'.Pools, x'.Bal, x'.Rolls, x'.Prices, x'.Down, [x]⟩ rc sl' (dn + 1), 0) := by
  have hm := markV hp hd hb (rc := rc) (sl := sl') (dn := dn) (n := 100)
  have hl0 : d_close_Close_L0 (sW x rc sl dn) 0 [3] 300 0 (sW x rc sl dn) = some (sW x' rc sl' dn) := by
    rw [d_close_Close_L0]
    refine v_T (by simp) (v_cT (v_bi (a := sW x' rc sl' dn) (v_ix (v := 3) (by decide) rfl ?_) (v_w (by decide) ?_)))
    · refine v_bi (a := false) (v_F (by decide) (v_cF (v_w (by decide) (v_w (by decide) (v_ix (v := x) (by decide) rfl (v_F (by rw [hP]; simp) rfl)))))) (v_cF ?_)
      refine v_ix (v := x) (by decide) rfl (v_w (by decide) (v_w (by decide) (v_w (by decide) (v_w (by decide) (v_w (by decide) (v_as (by rw [hP]; simp) ?_))))))
      refine v_eq (v := [p0, p1]) (by rw [hP]; rfl) ?_
      exact v_bi hL rfl
    · rw [d_close_Close_L0]
      exact v_F (by simp) (v_cF rfl)
  have hcl : d_close_Close 300 (sW x rc sl dn) 0 = some (sW ⟨x'.Now, true, x'.Pools, x'.Bal, x'.Rolls, x'.Prices, x'.Down, [x]⟩ rc sl' dn, 0) := by
    unfold d_close_Close
    refine v_bi (a := true) rfl (v_nT (v_as rfl (v_ix (v := x) (by decide) rfl (v_bnd ?_))))
    rw [hc]
    refine v_cF (v_ix (v := [3]) (by decide) rfl (v_bi hl0 (v_bi hm (v_F (show ¬ ((0 : Int) ≠ 0) by decide) (v_as rfl (v_as (by simp [sW]) (v_ix (v := x) (by decide) rfl (v_ix (v := x') (by decide) rfl (v_bnd (v_bnd ?_))))))))))
    rfl
  unfold d_close_Step
  refine v_bi chkC (v_nT (v_as rfl (v_T rfl (v_cT (v_bi hcl (v_F (show ¬ ((0 : Int) ≠ 0) by decide) (v_as rfl (v_w (by show -9223372036854775808 ≤ dn + 1 ∧ dn + 1 ≤ 9223372036854775807; omega) ?_))))))))
  rfl
theorem noneV {q v b c d : Int} {rc : List GReceipt} {sl : List GSale} {dn : Int} : d_close_Close_L1 0 0 [⟨lay q v, ⟨0, 0, 0⟩⟩, ⟨[], ⟨0, 0, 0⟩⟩] 299 0 (sW (en q v 0 b c d) rc sl dn) = some (sW (en q v 0 b c d) rc sl dn) := by
  rw [d_close_Close_L1]
  refine v_T (by simp) (v_cT (v_bi (v_ix (by decide) rfl (v_T rfl (v_cT rfl))) (v_w (by decide) ?_)))
  rw [d_close_Close_L1]
  refine v_T (by simp) (v_cT (v_bi (v_ix (by decide) rfl (v_T rfl (v_cT rfl))) (v_w (by decide) ?_)))
  rw [d_close_Close_L1]
  exact v_F (by simp) (v_cF rfl)
theorem someV {q v g b c d : Int} (h : Nm q v g b c d) (hg : 1 ≤ g) {rc : List GReceipt} {dn : Int} {w : List Int} {k : Int} (hk : k = (v * g).tdiv q) (hw : WOk k g w) : ∃ s : List Nat, ∃ m : Nat, ∃ pf : List Int,
    s.Perm (List.range w.length) ∧ s.Pairwise (bef (rL k g w)) ∧ ((m : Nat) : Int) = k - sm (oL k g w) ∧ m ≤ w.length ∧
    d_close_Close_L1 0 0 [⟨lay q v, ⟨g, 0, 0⟩⟩, ⟨[], ⟨0, 0, 0⟩⟩] 299 0 (sW (en q v g b c d) rc (w.map sal) dn) = some (sW (xF q v g b c d k) rc ((List.range w.length).map (salD (inc (oL k g w) (s.take m)) pf w)) dn) := by
  obtain ⟨s, m, pf, h1, h2, h3, h4, h5⟩ := setlV h hg (rc := rc) (dn := dn) hk hw (n := 98)
  refine ⟨s, m, pf, h1, h2, h3, h4, ?_⟩
  rw [d_close_Close_L1]
  refine v_T (by simp) (v_cT (v_bi (v_ix (by decide) rfl (v_F (by simp; omega) (v_cF (v_bi h5 (v_F (show ¬ ((0 : Int) ≠ 0) by decide) (v_as rfl rfl)))))) (v_w (by decide) ?_)))
  rw [d_close_Close_L1]
  refine v_T (by simp) (v_cT (v_bi (v_ix (by decide) rfl (v_T rfl (v_cT rfl))) (v_w (by decide) ?_)))
  rw [d_close_Close_L1]
  exact v_F (by simp) (v_cF rfl)
theorem pl43 {v n : Int} (hn : 0 < n ∧ n ≤ 4611686018427387904) : ∃ r, d_law00_Place v n = some r ∧ 0 ≤ r ∧ r < n := by
  have h2 : (v.tmod n) < n ∧ -n < v.tmod n := by
    have := Int.tmod_lt_of_pos v hn.1
    have h3 := Int.lt_tmod_of_pos v hn.1
    omega
  unfold d_law00_Place
  by_cases h0 : v.tmod n < 0
  · exact ⟨v.tmod n + n, v_as (by omega) (v_bnd (v_T h0 (v_bi (v_cT (v_w (by omega) rfl)) rfl))), by omega, by omega⟩
  · exact ⟨v.tmod n, v_as (by omega) (v_bnd (v_F h0 (v_bi (v_cF rfl) rfl))), by omega, by omega⟩
structure Iv (i : Nat) (q v g b c d : Int) (rc : List GReceipt) (w : List Int) (dn : Int) : Prop where
  hq : 0 ≤ q ∧ q ≤ 20 * i
  hv : 0 ≤ v ∧ v ≤ 1000 * i
  hz : q = 0 → v = 0
  hg : 0 ≤ g ∧ g ≤ q
  hb : -1000 * i ≤ b ∧ b ≤ 0
  hc : 0 ≤ c ∧ c ≤ i
  hd : -i ≤ d ∧ d ≤ 0
  hr : rc.length ≤ i
  hx : ∀ x ∈ w, 1 ≤ x ∧ x ≤ 15
  hs : sm w = g
  hl : w.length ≤ i
  hn : 0 ≤ dn ∧ dn ≤ 2 * i
theorem Iv.nm {i : Nat} {q v g b c d : Int} {rc : List GReceipt} {w : List Int} {dn : Int} (h : Iv i q v g b c d rc w dn) (hi : i ≤ 12) : Nm q v g b c d := by
  obtain ⟨hq, hv, hz, hg, hb, hc, hd, hr, hx, hs, hl, hn⟩ := h
  exact ⟨by omega, by omega, hz, hg, by omega, by omega, by omega⟩
theorem sm_app : ∀ (l r : List Int), sm (l ++ r) = sm l + sm r
  | [], r => by simp [sm]
  | x :: l, r => by simp only [List.cons_append, sm, sm_app l r]; omega
theorem appT {q v g b c d k : Int} {rc : List GReceipt} {w : List Int} {dn : Int} {n : Nat} (h : Nm q v g b c d) (hk : 1 ≤ k ∧ k ≤ 1000) (hf : k ≤ q - g) (hs : w.length < 40) (hd : 0 ≤ dn ∧ dn ≤ 1000) :
    d_close_Step (n + 200) (sW (en q v g b c d) rc (w.map sal) dn) ⟨4, 0, 0, 0, 0, k, 1, 0, []⟩ = some (sW (en q v (g + k) b (c + 1) (d + -1)) rc ((w ++ [k]).map sal) (dn + 1), 0) := by
  refine (appS hk (s' := sW (en q v (g + k) b (c + 1) (d + -1)) rc (w.map sal ++ [sal k]) dn) hd (ready_v (atW _ rfl rfl _ _ _) rfl) (sellT h hk hf (by rw [List.length_map]; exact hs))).trans ?_
  rw [if_pos rfl, List.map_append]; rfl
theorem appF {q v g b c d k : Int} {rc : List GReceipt} {w : List Int} {dn : Int} {n : Nat} (h : Nm q v g b c d) (hk : 1 ≤ k ∧ k ≤ 1000) (hf : ¬ k ≤ q - g) (hs : w.length < 40) (hd : 0 ≤ dn ∧ dn ≤ 1000) :
    d_close_Step (n + 200) (sW (en q v g b c d) rc (w.map sal) dn) ⟨4, 0, 0, 0, 0, k, 1, 0, []⟩ = some (sW (en q v g b c d) rc (w.map sal) dn, 5) := by
  refine (appS hk (s' := sW (en q v g b c d) rc (w.map sal) dn) hd (ready_v (atW _ rfl rfl _ _ _) rfl) (sellF h hk hf (by rw [List.length_map]; exact hs))).trans ?_
  rw [if_neg (by decide)]
theorem rounds (l sold : List Int) : ∀ (e i n : Nat) (q v g b c d : Int) (rc : List GReceipt) (w : List Int) (dn : Int), i + e = 12 → e + 201 < n → Iv i q v g b c d rc w dn →
    ∃ q' v' g' b' c' d' rc' w' dn', d_law23_CloseWaits_L0 l sold n q v g (i : Int) (sW (en q v g b c d) rc (w.map sal) dn) w = some (q', v', g', sW (en q' v' g' b' c' d') rc' (w'.map sal) dn', w') ∧ Iv 12 q' v' g' b' c' d' rc' w' dn' := by
  have stop : ∀ (i n : Nat) (q v g b c d : Int) (rc : List GReceipt) (w : List Int) (dn : Int), i ≤ 12 → (i = 12 ∨ l.length ≤ i) → 0 < n → Iv i q v g b c d rc w dn →
      ∃ q' v' g' b' c' d' rc' w' dn', d_law23_CloseWaits_L0 l sold n q v g (i : Int) (sW (en q v g b c d) rc (w.map sal) dn) w = some (q', v', g', sW (en q' v' g' b' c' d') rc' (w'.map sal) dn', w') ∧ Iv 12 q' v' g' b' c' d' rc' w' dn' := by
    intro i n q v g b c d rc w dn hi hst hn h
    obtain ⟨n, rfl⟩ : ∃ m, n = m + 1 := ⟨n - 1, by omega⟩
    refine ⟨q, v, g, b, c, d, rc, w, dn, ?_, ?_⟩
    · rw [d_law23_CloseWaits_L0]
      refine v_bi (a := false) ?_ (v_cF rfl)
      by_cases h1 : (i : Int) < (l.length : Int)
      · exact v_T h1 (v_cT (v_F (by omega) rfl))
      · exact v_F h1 (v_cF rfl)
    · obtain ⟨hq, hv, hz, hg, hb, hc, hd, hr, hx, hs, hl, hn⟩ := h
      exact ⟨by omega, by omega, hz, hg, by omega, by omega, by omega, by omega, hx, hs, by omega, by omega⟩
  intro e
  induction e with
  | zero =>
    intro i n q v g b c d rc w dn hi hn h
    exact stop i n q v g b c d rc w dn (by omega) (.inl (by omega)) (by omega) h
  | succ e ih =>
    intro i n q v g b c d rc w dn hi hn h
    by_cases hil : l.length ≤ i
    · exact stop i n q v g b c d rc w dn (by omega) (.inr hil) (by omega) h
    obtain ⟨n, rfl⟩ : ∃ m, n = m + 1 := ⟨n - 1, by omega⟩
    have hx : l[((i : Int)).toNat]? = some (l[i]'(by omega)) := by simp
    obtain ⟨r, p1, p2⟩ := pl43 (v := l[i]'(by omega)) (n := 20000) (by omega)
    have t1 := Int.tmod_nonneg 20 p2.1
    have t2 := Int.tmod_lt_of_pos r (show (0 : Int) < 20 by decide)
    have t3 := Int.tdiv_nonneg p2.1 (show (0 : Int) ≤ 20 by decide)
    have t4 := Int.mul_tdiv_add_tmod r 20
    have hN := h.nm (by omega)
    generalize hT : r.tmod 20 = t at *
    generalize hD : r.tdiv 20 = u at *
    obtain ⟨fq, fv, fz, fg, fb, fc, fd, fr, fx, fs, fl, fn⟩ := h
    have hR : d_close_Step n (sW (en q v g b c d) rc (w.map sal) dn) ⟨1, 0, 0, 0, 0, 1 + t, u, 0, []⟩ = some (sW (en (q + (1 + t)) (v + u) g (b + (0 - u)) c d) (rc ++ [⟨0, 0, 0, 1 + t, u, 1 + t, u, 0⟩]) (w.map sal) (dn + 1), 0) := by
      obtain ⟨m, rfl⟩ : ∃ m, n = m + 200 := ⟨n - 200, by omega⟩
      exact appR hN (by omega) (by omega) (by omega) (by omega)
    have hI : Iv (i + 1) (q + (1 + t)) (v + u) g (b + (0 - u)) c d (rc ++ [⟨0, 0, 0, 1 + t, u, 1 + t, u, 0⟩]) w (dn + 1) :=
      ⟨by omega, by omega, by omega, by omega, by omega, by omega, by omega, by rw [List.length_append, List.length_singleton]; omega, fx, fs, by omega, by omega⟩
    have hN1 := hI.nm (by omega)
    have eq1 : q + 1 + t = q + (1 + t) := by omega
    by_cases hsl : i < sold.length
    · have hy : sold[((i : Int)).toNat]? = some (sold[i]'(by omega)) := by simp
      obtain ⟨z, z1, z2⟩ := pl43 (v := sold[i]'(by omega)) (n := 15) (by omega)
      by_cases hf : 1 + z ≤ q + (1 + t) - g
      · have hS : d_close_Step n (sW (en (q + (1 + t)) (v + u) g (b + (0 - u)) c d) (rc ++ [⟨0, 0, 0, 1 + t, u, 1 + t, u, 0⟩]) (w.map sal) (dn + 1)) ⟨4, 0, 0, 0, 0, 1 + z, 1, 0, []⟩ = some (sW (en (q + (1 + t)) (v + u) (g + (1 + z)) (b + (0 - u)) (c + 1) (d + -1)) (rc ++ [⟨0, 0, 0, 1 + t, u, 1 + t, u, 0⟩]) ((w ++ [1 + z]).map sal) (dn + 1 + 1), 0) := by
          obtain ⟨m, rfl⟩ : ∃ m, n = m + 200 := ⟨n - 200, by omega⟩
          exact appT hN1 (by omega) hf (by omega) (by omega)
        have hI2 : Iv (i + 1) (q + (1 + t)) (v + u) (g + (1 + z)) (b + (0 - u)) (c + 1) (d + -1) (rc ++ [⟨0, 0, 0, 1 + t, u, 1 + t, u, 0⟩]) (w ++ [1 + z]) (dn + 1 + 1) := by
          obtain ⟨gq, gv, gz, gg, gb, gc, gd, gr, gx, gs, gl, gn⟩ := hI
          refine ⟨gq, gv, gz, by omega, gb, by omega, by omega, gr, fun x hx => ?_, ?_, ?_, by omega⟩
          · rcases List.mem_append.1 hx with h1 | h1
            · exact fx x h1
            · rw [List.mem_singleton.1 h1]; omega
          · rw [sm_app, fs]; simp only [sm]; omega
          · rw [List.length_append, List.length_singleton]; omega
        obtain ⟨q', v', g', b', c', d', rc', w', dn', r1, r2⟩ := ih (i + 1) n _ _ _ _ _ _ _ _ _ (by omega) (by omega) hI2
        refine ⟨q', v', g', b', c', d', rc', w', dn', ?_, r2⟩
        rw [d_law23_CloseWaits_L0]
        refine v_bi (a := true) (v_T (by omega) (v_cT (v_T (by omega) rfl))) (v_cT ?_)
        refine v_bi (a := (q + (1 + t), v + u, g + (1 + z), sW (en (q + (1 + t)) (v + u) (g + (1 + z)) (b + (0 - u)) (c + 1) (d + -1)) (rc ++ [⟨0, 0, 0, 1 + t, u, 1 + t, u, 0⟩]) ((w ++ [1 + z]).map sal) (dn + 1 + 1), w ++ [1 + z])) ?_ ?_
        · refine v_ix (by omega) hx (v_bi p1 ?_)
          rw [hT, hD]
          refine v_bnd (v_w (by omega) (v_w (by omega) (v_bi hR (v_F (show ¬ ((0 : Int) ≠ 0) by decide) (v_as rfl (v_w (by omega) (v_bnd (v_w (by omega) (v_w (by omega) (v_w (by omega) ?_))))))))))
          rw [eq1]
          refine v_T (by omega) (v_cT (v_ix (by omega) hy (v_bi z1 (v_w (by omega) (v_bi hS (v_T rfl (v_w (by omega) (v_T (by omega) (v_F (by decide) (v_as rfl (v_T rfl (v_cT (v_w (by omega) (v_bnd (v_as ?_ rfl)))))))))))))))
          rw [List.length_append, List.length_singleton]; omega
        · refine v_p2 (v_p2 (v_p2 (v_p2 (v_w (by omega) ?_))))
          exact r1
      · have hS : d_close_Step n (sW (en (q + (1 + t)) (v + u) g (b + (0 - u)) c d) (rc ++ [⟨0, 0, 0, 1 + t, u, 1 + t, u, 0⟩]) (w.map sal) (dn + 1)) ⟨4, 0, 0, 0, 0, 1 + z, 1, 0, []⟩ = some (sW (en (q + (1 + t)) (v + u) g (b + (0 - u)) c d) (rc ++ [⟨0, 0, 0, 1 + t, u, 1 + t, u, 0⟩]) (w.map sal) (dn + 1), 5) := by
          obtain ⟨m, rfl⟩ : ∃ m, n = m + 200 := ⟨n - 200, by omega⟩
          exact appF hN1 (by omega) hf (by omega) (by omega)
        obtain ⟨q', v', g', b', c', d', rc', w', dn', r1, r2⟩ := ih (i + 1) n _ _ _ _ _ _ _ _ _ (by omega) (by omega) hI
        refine ⟨q', v', g', b', c', d', rc', w', dn', ?_, r2⟩
        rw [d_law23_CloseWaits_L0]
        refine v_bi (a := true) (v_T (by omega) (v_cT (v_T (by omega) rfl))) (v_cT ?_)
        refine v_bi (a := (q + (1 + t), v + u, g, sW (en (q + (1 + t)) (v + u) g (b + (0 - u)) c d) (rc ++ [⟨0, 0, 0, 1 + t, u, 1 + t, u, 0⟩]) (w.map sal) (dn + 1), w)) ?_ ?_
        · refine v_ix (by omega) hx (v_bi p1 ?_)
          rw [hT, hD]
          refine v_bnd (v_w (by omega) (v_w (by omega) (v_bi hR (v_F (show ¬ ((0 : Int) ≠ 0) by decide) (v_as rfl (v_w (by omega) (v_bnd (v_w (by omega) (v_w (by omega) (v_w (by omega) ?_))))))))))
          rw [eq1]
          exact v_T (by omega) (v_cT (v_ix (by omega) hy (v_bi z1 (v_w (by omega) (v_bi hS (v_F (show ¬ ((5 : Int) = 0) by decide) (v_w (by omega) (v_F hf (v_F (by decide) (v_as rfl (v_F (show ¬ ((5 : Int) = 0) by decide) (v_cF rfl))))))))))))
        · refine v_p2 (v_p2 (v_p2 (v_p2 (v_w (by omega) ?_))))
          exact r1
    · obtain ⟨q', v', g', b', c', d', rc', w', dn', r1, r2⟩ := ih (i + 1) n _ _ _ _ _ _ _ _ _ (by omega) (by omega) hI
      refine ⟨q', v', g', b', c', d', rc', w', dn', ?_, r2⟩
      rw [d_law23_CloseWaits_L0]
      refine v_bi (a := true) (v_T (by omega) (v_cT (v_T (by omega) rfl))) (v_cT ?_)
      refine v_bi (a := (q + (1 + t), v + u, g, sW (en (q + (1 + t)) (v + u) g (b + (0 - u)) c d) (rc ++ [⟨0, 0, 0, 1 + t, u, 1 + t, u, 0⟩]) (w.map sal) (dn + 1), w)) ?_ ?_
      · refine v_ix (by omega) hx (v_bi p1 ?_)
        rw [hT, hD]
        refine v_bnd (v_w (by omega) (v_w (by omega) (v_bi hR (v_F (show ¬ ((0 : Int) ≠ 0) by decide) (v_as rfl (v_w (by omega) (v_bnd (v_w (by omega) (v_w (by omega) (v_w (by omega) ?_))))))))))
        rw [eq1]
        exact v_F (by omega) (v_cF rfl)
      · refine v_p2 (v_p2 (v_p2 (v_p2 (v_w (by omega) ?_))))
        exact r1
end Go.Pv
