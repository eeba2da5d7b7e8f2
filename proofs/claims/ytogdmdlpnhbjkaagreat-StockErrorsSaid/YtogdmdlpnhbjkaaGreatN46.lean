/- Stock: sameness of states; what there is not. -/
import Derived.Test.YtogdmdlpnhbjkaaGreatH46
set_option linter.unusedSimpArgs false
set_option linter.unusedVariables false
namespace Go.Pv
set_option maxRecDepth 100000
set_option maxHeartbeats 400000
theorem lpT {L n0 : Nat} {F : Nat → Int → Option (Unit ⊕ Bool)} {c : Nat → Bool} (hstep : ∀ n k, k < L → n0 ≤ n → F (n + 1) (k : Int) = cond (c k) (F n ((k + 1 : Nat) : Int)) (some (.inr false))) (hstop : ∀ n, F (n + 1) (L : Int) = some (.inl ())) :
    ∀ (d k n : Nat), k + d = L → n0 + d < n → (∀ j, k ≤ j → j < L → c j = true) → F n (k : Int) = some (.inl ())
  | _, _, 0, _, hn, _ => by omega
  | 0, k, n + 1, hk, hn, _ => by
    obtain rfl : k = L := by omega
    exact hstop n
  | d + 1, k, n + 1, hk, hn, h => by
    rw [hstep n k (by omega) (by omega), h k (Nat.le_refl k) (by omega)]
    exact lpT hstep hstop d (k + 1) n (by omega) (by omega) (fun j hj hl => h j (by omega) hl)
theorem lpF {L n0 : Nat} {F : Nat → Int → Option (Unit ⊕ Bool)} {c : Nat → Bool} (hstep : ∀ n k, k < L → n0 ≤ n → F (n + 1) (k : Int) = cond (c k) (F n ((k + 1 : Nat) : Int)) (some (.inr false))) {i : Nat} (hi : i < L) (hc : c i = false) :
    ∀ (d k n : Nat), k + d = L → n0 + d < n → k ≤ i → F n (k : Int) = some (.inr false)
  | _, _, 0, _, hn, _ => by omega
  | 0, k, n + 1, hk, hn, hki => by omega
  | d + 1, k, n + 1, hk, hn, hki => by
    rw [hstep n k (by omega) (by omega)]
    cases hck : c k with
    | false => rfl
    | true =>
      have : k ≠ i := fun e => by rw [e, hc] at hck; cases hck
      exact lpF hstep hi hc d (k + 1) n (by omega) (by omega) (by omega)
theorem rfI (l : List Int) (hl : l.length ≤ 1000) {n : Nat} (hn : l.length < n) : d_slices_Equal_int_int n l l = some true := by
  have h := lpT (L := l.length) (F := fun n k => d_slices_Equal_int_int_L0 l l n k) (n0 := 0) (c := fun _ => true) (fun n k hk _ => by
    have hx : l[((k : Int)).toNat]? = some l[k] := by simp [hk]
    show d_slices_Equal_int_int_L0 l l (n + 1) (k : Int) = _
    rw [d_slices_Equal_int_int_L0]
    have hF : d_slices_Equal_int_int_L0 l l n ((k : Int) + 1) = cond true (d_slices_Equal_int_int_L0 l l n ((k + 1 : Nat) : Int)) (some (.inr false)) := rfl
    exact v_T (by omega) (v_cT (v_ix (by omega) hx (v_ix (by omega) hx (v_F (show ¬ (l[k] ≠ l[k]) from fun h => h rfl) (v_cF (v_w (by omega) hF))))))) (fun n => by
    show d_slices_Equal_int_int_L0 l l (n + 1) (l.length : Int) = _
    rw [d_slices_Equal_int_int_L0]; exact v_F (by omega) (v_cF rfl)) l.length 0 n (Nat.zero_add _) (by omega) (fun _ _ _ => rfl)
  unfold d_slices_Equal_int_int
  exact v_F (by simp) (v_cF (v_bi h rfl))
theorem rfR (l : List GRoll) (hl : l.length ≤ 1000) {n : Nat} (hn : l.length < n) : d_slices_Equal_api_Roll_api_Roll n l l = some true := by
  have h := lpT (L := l.length) (F := fun n k => d_slices_Equal_api_Roll_api_Roll_L0 l l n k) (n0 := 0) (c := fun _ => true) (fun n k hk _ => by
    have hx : l[((k : Int)).toNat]? = some l[k] := by simp [hk]
    show d_slices_Equal_api_Roll_api_Roll_L0 l l (n + 1) (k : Int) = _
    rw [d_slices_Equal_api_Roll_api_Roll_L0]
    have hF : d_slices_Equal_api_Roll_api_Roll_L0 l l n ((k : Int) + 1) = cond true (d_slices_Equal_api_Roll_api_Roll_L0 l l n ((k + 1 : Nat) : Int)) (some (.inr false)) := rfl
    exact v_T (by omega) (v_cT (v_ix (by omega) hx (v_ix (by omega) hx (v_bnd (by rw [show (!decide (l[k] = l[k])) = false by simp]; exact v_cF (v_w (by omega) hF))))))) (fun n => by
    show d_slices_Equal_api_Roll_api_Roll_L0 l l (n + 1) (l.length : Int) = _
    rw [d_slices_Equal_api_Roll_api_Roll_L0]; exact v_F (by omega) (v_cF rfl)) l.length 0 n (Nat.zero_add _) (by omega) (fun _ _ _ => rfl)
  unfold d_slices_Equal_api_Roll_api_Roll
  exact v_F (by simp) (v_cF (v_bi h rfl))
theorem rfL (l : List GLayer) (hl : l.length ≤ 1000) {n : Nat} (hn : l.length < n) : d_slices_Equal_api_Layer_api_Layer n l l = some true := by
  have h := lpT (L := l.length) (F := fun n k => d_slices_Equal_api_Layer_api_Layer_L0 l l n k) (n0 := 0) (c := fun _ => true) (fun n k hk _ => by
    have hx : l[((k : Int)).toNat]? = some l[k] := by simp [hk]
    show d_slices_Equal_api_Layer_api_Layer_L0 l l (n + 1) (k : Int) = _
    rw [d_slices_Equal_api_Layer_api_Layer_L0]
    have hF : d_slices_Equal_api_Layer_api_Layer_L0 l l n ((k : Int) + 1) = cond true (d_slices_Equal_api_Layer_api_Layer_L0 l l n ((k + 1 : Nat) : Int)) (some (.inr false)) := rfl
    exact v_T (by omega) (v_cT (v_ix (by omega) hx (v_ix (by omega) hx (v_bnd (by rw [show (!decide (l[k] = l[k])) = false by simp]; exact v_cF (v_w (by omega) hF))))))) (fun n => by
    show d_slices_Equal_api_Layer_api_Layer_L0 l l (n + 1) (l.length : Int) = _
    rw [d_slices_Equal_api_Layer_api_Layer_L0]; exact v_F (by omega) (v_cF rfl)) l.length 0 n (Nat.zero_add _) (by omega) (fun _ _ _ => rfl)
  unfold d_slices_Equal_api_Layer_api_Layer
  exact v_F (by simp) (v_cF (v_bi h rfl))
theorem msM {m : GMaster} {E N lo hi : _} (h : Rws E N lo hi m.Methods) (hE : E ≤ 100) (hN : N ≤ 100) {n : Nat} (hn : 300 < n) : d_master_Same_L0 m m n 0 = some (.inl ()) := by
  have hl : m.Methods.length = E := h.1
  have := lpT (L := m.Methods.length) (F := fun n k => d_master_Same_L0 m m n k) (n0 := 120) (c := fun _ => true) (fun n k hk hn => by
    have hx : m.Methods[((k : Int)).toNat]? = some m.Methods[k] := by simp [hk]
    have hr := (h.2 _ (List.getElem_mem hk)).1
    show d_master_Same_L0 m m (n + 1) (k : Int) = _
    rw [d_master_Same_L0]
    refine v_T (by omega) (v_cT (v_ix (by omega) hx (v_ix (by omega) hx (v_bi (rfI _ (by omega) (by omega)) (v_nT (v_cF (v_w (by omega) ?_)))))))
    rfl) (fun n => by
    show d_master_Same_L0 m m (n + 1) (m.Methods.length : Int) = _
    rw [d_master_Same_L0]; exact v_F (by omega) (v_cF rfl)) m.Methods.length 0 n (Nat.zero_add _) (by omega) (fun _ _ _ => rfl)
  exact this
theorem msC {m : GMaster} {E N lo hi : _} (h : Rws E N lo hi m.Costs) (hE : E ≤ 100) (hN : N ≤ 100) {n : Nat} (hn : 300 < n) : d_master_Same_L1 m m n 0 = some (.inl ()) := by
  have hl : m.Costs.length = E := h.1
  have := lpT (L := m.Costs.length) (F := fun n k => d_master_Same_L1 m m n k) (n0 := 120) (c := fun _ => true) (fun n k hk hn => by
    have hx : m.Costs[((k : Int)).toNat]? = some m.Costs[k] := by simp [hk]
    have hr := (h.2 _ (List.getElem_mem hk)).1
    show d_master_Same_L1 m m (n + 1) (k : Int) = _
    rw [d_master_Same_L1]
    refine v_T (by omega) (v_cT (v_ix (by omega) hx (v_ix (by omega) hx (v_bi (rfI _ (by omega) (by omega)) (v_nT (v_cF (v_w (by omega) ?_)))))))
    rfl) (fun n => by
    show d_master_Same_L1 m m (n + 1) (m.Costs.length : Int) = _
    rw [d_master_Same_L1]; exact v_F (by omega) (v_cF rfl)) m.Costs.length 0 n (Nat.zero_add _) (by omega) (fun _ _ _ => rfl)
  exact this
theorem mSame {m : GMaster} {E N : Nat} (h : MOk m E N) {n : Nat} (hn : 300 < n) : d_master_Same n m m = some true := by
  have h2 := h.e2; have h3 := h.n2; have hw := h.w.1
  unfold d_master_Same
  refine v_bi (a := true) (v_T rfl (v_cT (v_T rfl (v_cT (v_bi (rfI _ (by omega) (by omega)) (v_cT (v_bi (a := true) (v_F (by simp) (v_cF (v_bi (msM h.ms (by omega) (by omega) hn) rfl))) (v_cT (v_bi (a := true) (v_F (by simp) (v_cF (v_bi (msC h.cs (by omega) (by omega) hn) rfl))) rfl))))))))) rfl
theorem spT (p : GPool) (h : p.Layers.length ≤ 100) {n : Nat} (hn : 100 < n) : d_stock_samePool n p p = some true := by
  unfold d_stock_samePool
  exact v_bi (v_bi (rfL _ (by omega) (by omega)) (v_cT (v_T rfl rfl))) rfl
theorem spF (p q : GPool) (h : p.Layers.length ≠ q.Layers.length) {n : Nat} : d_stock_samePool n p q = some false := by
  unfold d_stock_samePool
  refine v_bi (a := false) (v_bi (a := false) ?_ (v_cF rfl)) rfl
  unfold d_slices_Equal_api_Layer_api_Layer
  exact v_T (by omega) (v_cT rfl)
structure EOk (x : GEnt) : Prop where
  p : x.Pools.length ≤ 100
  l : ∀ q ∈ x.Pools, q.Layers.length ≤ 100
  b : x.Bal.length ≤ 100
  r : x.Rolls.length ≤ 100
  c : x.Prices.length ≤ 100
  d : x.Down.length ≤ 100
  a : x.Ahead = []
theorem seT {x : GEnt} (h : EOk x) {n : Nat} (hn : 300 < n) : d_stock_sameEnt n x x = some true := by
  have hb := h.b; have hr := h.r; have hc := h.c; have hd := h.d; have hp := h.p
  have h0 := lpT (L := x.Pools.length) (F := fun n k => d_stock_sameEnt_L0 x x n k) (n0 := 120) (c := fun _ => true) (fun n k hk hn => by
    have hx : x.Pools[((k : Int)).toNat]? = some x.Pools[k] := by simp [hk]
    show d_stock_sameEnt_L0 x x (n + 1) (k : Int) = _
    rw [d_stock_sameEnt_L0]
    refine v_T (by omega) (v_cT (v_ix (by omega) hx (v_ix (by omega) hx (v_bi (spT _ (h.l _ (List.getElem_mem hk)) (by omega)) (v_nT (v_cF (v_w (by omega) ?_)))))))
    rfl) (fun n => by
    show d_stock_sameEnt_L0 x x (n + 1) (x.Pools.length : Int) = _
    rw [d_stock_sameEnt_L0]; exact v_F (by omega) (v_cF rfl)) x.Pools.length 0 n (Nat.zero_add _) (by omega) (fun _ _ _ => rfl)
  have h1 : d_stock_sameEnt_L1 x n = some () := by
    obtain ⟨m, rfl⟩ : ∃ m, n = m + 1 := ⟨n - 1, by omega⟩
    rw [d_stock_sameEnt_L1, h.a]
    exact v_F (by decide) (v_as rfl rfl)
  unfold d_stock_sameEnt
  refine v_bi (a := true) (v_T rfl (v_cT (v_T rfl (v_cT (v_bi (a := true) (v_F (by simp) (v_cF (v_bi h0 rfl))) (v_cT (v_bi (rfI _ (by omega) (by omega)) (v_cT (v_bi (rfR _ (by omega) (by omega)) (v_cT (v_bi (rfI _ (by omega) (by omega)) (v_cT (v_bi (rfI _ (by omega) (by omega)) (v_cT ?_)))))))))))))) rfl
  exact v_bi (a := ()) (v_F (by simp) (v_as rfl (v_bi h1 rfl))) rfl
theorem seF {x y : GEnt} (hN : x.Now = y.Now) (hC : x.Closed = y.Closed) (hl : x.Pools.length = y.Pools.length) (hp : x.Pools.length ≤ 100) {i : Nat} (hi : i < x.Pools.length)
    (he : ∀ j (h : j < x.Pools.length), j ≠ i → x.Pools[j] = y.Pools[j]'(by omega) ∧ x.Pools[j].Layers.length ≤ 100) (hne : x.Pools[i].Layers.length ≠ (y.Pools[i]'(by omega)).Layers.length) {n : Nat} (hn : 300 < n) : d_stock_sameEnt n x y = some false := by
  have h0 := lpF (L := x.Pools.length) (F := fun n k => d_stock_sameEnt_L0 x y n k) (n0 := 120) (c := fun k => !decide (k = i)) (fun n k hk hn => by
    have hx : x.Pools[((k : Int)).toNat]? = some x.Pools[k] := by simp [hk]
    have hy : y.Pools[((k : Int)).toNat]? = some (y.Pools[k]'(by omega)) := by simp
    show d_stock_sameEnt_L0 x y (n + 1) (k : Int) = _
    rw [d_stock_sameEnt_L0]
    by_cases hki : k = i
    · subst hki
      rw [show (!decide (k = k)) = false by simp]
      exact v_T (by omega) (v_cT (v_ix (by omega) hx (v_ix (by omega) hy (v_bi (spF _ _ hne) (v_nF (v_cT rfl))))))
    · rw [show (!decide (k = i)) = true by simp [hki]]
      have := he k hk hki
      refine v_T (by omega) (v_cT (v_ix (by omega) hx (v_ix (by omega) hy (v_bi (a := true) ?_ (v_nT (v_cF (v_w (by omega) ?_)))))))
      · rw [← this.1]; exact spT _ this.2 (by omega)
      · rfl) hi (by simp) x.Pools.length 0 n (Nat.zero_add _) (by omega) (Nat.zero_le _)
  unfold d_stock_sameEnt
  exact v_bi (a := false) (v_T hN (v_cT (v_T hC (v_cT (v_bi (a := false) (v_F (by omega) (v_cF (v_bi h0 rfl))) (v_cF rfl)))))) rfl
theorem sNil {n : Nat} : d_slices_Equal_api_Receipt_api_Receipt (n + 1) [] [] = some true ∧ d_slices_Equal_api_Sale_api_Sale (n + 1) [] [] = some true ∧ d_slices_Equal_api_Transit_api_Transit (n + 1) [] [] = some true := ⟨rfl, rfl, rfl⟩
theorem sameT {m : GMaster} {E N : Nat} (h : MOk m E N) {X : List GEnt} (hX : X.length ≤ 100) (hx : ∀ x ∈ X, EOk x) {n : Nat} (hn : 500 < n) : d_stock_Same n ⟨m, X, [], [], [], 0⟩ ⟨m, X, [], [], [], 0⟩ = some true := by
  have h0 := lpT (L := X.length) (F := fun n k => d_stock_Same_L0 ⟨m, X, [], [], [], 0⟩ ⟨m, X, [], [], [], 0⟩ n k) (n0 := 320) (c := fun _ => true) (fun n k hk hn => by
    have hx' : X[((k : Int)).toNat]? = some X[k] := by simp [hk]
    show d_stock_Same_L0 ⟨m, X, [], [], [], 0⟩ ⟨m, X, [], [], [], 0⟩ (n + 1) (k : Int) = _
    rw [d_stock_Same_L0]
    refine v_T (by show (k : Int) < (X.length : Int); omega) (v_cT (v_ix (by omega) hx' (v_ix (by omega) hx' (v_bi (seT (hx _ (List.getElem_mem hk)) (by omega)) (v_nT (v_cF (v_w (by omega) ?_)))))))
    rfl) (fun n => by
    show d_stock_Same_L0 _ _ (n + 1) (X.length : Int) = _
    rw [d_stock_Same_L0]; exact v_F (by show ¬ ((X.length : Int) < (X.length : Int)); omega) (v_cF rfl)) X.length 0 n (Nat.zero_add _) (by omega) (fun _ _ _ => rfl)
  obtain ⟨q, rfl⟩ : ∃ q, n = q + 1 := ⟨n - 1, by omega⟩
  unfold d_stock_Same
  exact v_bi (a := true) (v_bi (mSame h (by omega)) (v_cT (v_bi (a := true) (v_F (by simp) (v_cF (v_bi h0 rfl))) (v_cT (v_bi sNil.1 (v_cT (v_bi sNil.2.1 (v_cT (v_bi sNil.2.2 (v_cT (v_T rfl rfl))))))))))) rfl
theorem sameF {m : GMaster} {E N : Nat} (h : MOk m E N) {X Y : List GEnt} (hX : X.length ≤ 100) (hl : X.length = Y.length) {i : Nat} (hi : i < X.length) (he : ∀ j (h : j < X.length), j ≠ i → X[j] = Y[j]'(by omega) ∧ EOk X[j])
    (hne : ∀ n, 300 < n → d_stock_sameEnt n X[i] (Y[i]'(by omega)) = some false) {n : Nat} (hn : 500 < n) : d_stock_Same n ⟨m, X, [], [], [], 0⟩ ⟨m, Y, [], [], [], 0⟩ = some false := by
  have h0 := lpF (L := X.length) (F := fun n k => d_stock_Same_L0 ⟨m, X, [], [], [], 0⟩ ⟨m, Y, [], [], [], 0⟩ n k) (n0 := 320) (c := fun k => !decide (k = i)) (fun n k hk hn => by
    have hx' : X[((k : Int)).toNat]? = some X[k] := by simp [hk]
    have hy' : Y[((k : Int)).toNat]? = some (Y[k]'(by omega)) := by simp
    show d_stock_Same_L0 ⟨m, X, [], [], [], 0⟩ ⟨m, Y, [], [], [], 0⟩ (n + 1) (k : Int) = _
    rw [d_stock_Same_L0]
    by_cases hki : k = i
    · subst hki
      rw [show (!decide (k = k)) = false by simp]
      exact v_T (by show (k : Int) < (X.length : Int); omega) (v_cT (v_ix (by omega) hx' (v_ix (by omega) hy' (v_bi (hne n (by omega)) (v_nF (v_cT rfl))))))
    · rw [show (!decide (k = i)) = true by simp [hki]]
      have := he k hk hki
      refine v_T (by show (k : Int) < (X.length : Int); omega) (v_cT (v_ix (by omega) hx' (v_ix (by omega) hy' (v_bi (a := true) ?_ (v_nT (v_cF (v_w (by omega) ?_)))))))
      · rw [← this.1]; exact seT this.2 (by omega)
      · rfl) hi (by simp) X.length 0 n (Nat.zero_add _) (by omega) (Nat.zero_le _)
  unfold d_stock_Same
  exact v_bi (a := false) (v_bi (mSame h (by omega)) (v_cT (v_bi (a := false) (v_F (by show ¬ ((X.length : Int) ≠ (Y.length : Int)); omega) (v_cF (v_bi h0 rfl))) (v_cF rfl)))) rfl
end Go.Pv
