/- ReceiveMany: lists of layers. -/
import Derived.Test.YtiamgfjojjjggaaGreatA47
set_option linter.unusedSimpArgs false
set_option linter.unusedVariables false
namespace Go.Pv
set_option maxRecDepth 100000
set_option maxHeartbeats 400000
def sm : List Int → Int | [] => 0 | x :: r => x + sm r
def sq : List GLayer → Int | [] => 0 | x :: r => x.Qty + sq r
def sv : List GLayer → Int | [] => 0 | x :: r => x.Value + sv r
def LOk (l : List GLayer) : Prop := ∀ x ∈ l, 1 ≤ x.Qty ∧ 0 ≤ x.Value ∧ x.Profit = 0
theorem sm_nn : ∀ (l : List Int), (∀ x ∈ l, 0 ≤ x) → 0 ≤ sm l
  | [], _ => Int.le_refl 0
  | x :: r, h => by
    have := h x (List.mem_cons_self ..); have := sm_nn r (fun y hy => h y (List.mem_cons_of_mem _ hy)); simp only [sm]; omega
theorem sq_nn : ∀ {l : List GLayer}, LOk l → 0 ≤ sq l ∧ (l.length : Int) ≤ sq l
  | [], _ => ⟨Int.le_refl 0, Int.le_refl 0⟩
  | x :: r, h => by
    have := h x (List.mem_cons_self ..); have := sq_nn (l := r) (fun y hy => h y (List.mem_cons_of_mem _ hy)); simp only [sq, List.length_cons]; omega
theorem sv_nn : ∀ {l : List GLayer}, LOk l → 0 ≤ sv l
  | [], _ => Int.le_refl 0
  | x :: r, h => by
    have := h x (List.mem_cons_self ..); have := sv_nn (l := r) (fun y hy => h y (List.mem_cons_of_mem _ hy)); simp only [sv]; omega
theorem sq_le : ∀ {l : List GLayer}, LOk l → ∀ x ∈ l, x.Qty ≤ sq l
  | [], _, x, h => by cases h
  | y :: r, ho, x, h => by
    have h0 := ho y (List.mem_cons_self ..)
    have hr : LOk r := fun z hz => ho z (List.mem_cons_of_mem _ hz)
    have := sq_nn hr
    rcases List.mem_cons.1 h with rfl | h
    · simp only [sq]; omega
    · have := sq_le hr x h; simp only [sq]; omega
theorem sv_le : ∀ {l : List GLayer}, LOk l → ∀ x ∈ l, x.Value ≤ sv l
  | [], _, x, h => by cases h
  | y :: r, ho, x, h => by
    have h0 := ho y (List.mem_cons_self ..)
    have hr : LOk r := fun z hz => ho z (List.mem_cons_of_mem _ hz)
    have := sv_nn hr
    rcases List.mem_cons.1 h with rfl | h
    · simp only [sv]; omega
    · have := sv_le hr x h; simp only [sv]; omega
theorem sm_q : ∀ l : List GLayer, sm (l.map (·.Qty)) = sq l
  | [] => rfl
  | x :: l => by simp only [List.map_cons, sm, sq, sm_q l]
theorem sm_v : ∀ l : List GLayer, sm (l.map (·.Value)) = sv l
  | [] => rfl
  | x :: l => by simp only [List.map_cons, sm, sv, sm_v l]
theorem sm_z {α : Type} : ∀ l : List α, sm (l.map fun _ => 0) = 0
  | [] => rfl
  | x :: l => by simp only [List.map_cons, sm, sm_z l]; rfl
theorem sm_p : ∀ {l : List GLayer}, LOk l → l.map (·.Profit) = l.map fun _ => 0 := fun h => List.map_congr_left fun x hx => (h x hx).2.2
theorem sumG (l : List Int) (h : ∀ x ∈ l, 0 ≤ x) (hl : l.length ≤ 1000) : ∀ (d k n : Nat) (acc : Int), k + d = l.length → d < n → 0 ≤ acc → acc + sm (l.drop k) ≤ 1000000000000 → d_money_Sum_L0 l n acc (k : Int) = some (acc + sm (l.drop k))
  | _, _, 0, _, _, hn, _, _ => by omega
  | 0, k, n + 1, acc, hk, hn, ha, hb => by
    rw [d_money_Sum_L0, List.drop_of_length_le (by omega)]
    exact v_F (by omega) (v_cF (by simp [sm]))
  | d + 1, k, n + 1, acc, hk, hn, ha, hb => by
    have hkl : k < l.length := by omega
    have hx : l[((k : Int)).toNat]? = some l[k] := by simp [hkl]
    have h0 := h l[k] (List.getElem_mem hkl)
    have h1 := sm_nn (l.drop (k + 1)) (fun y hy => h y (List.mem_of_mem_drop hy))
    rw [List.drop_eq_getElem_cons hkl] at hb ⊢
    simp only [sm] at hb ⊢
    have ih := sumG l h hl d (k + 1) n (acc + l[k]) (by omega) (by omega) (by omega) (by omega)
    rw [d_money_Sum_L0]
    refine v_T (by omega) (v_cT (v_ix (by omega) hx (v_bi (add_v (by omega) (by omega) (by omega)) (v_F (show ¬ ((0 : Int) ≠ 0) by decide) (v_as rfl (v_w (by omega) ?_))))))
    refine ih.trans ?_
    rw [Int.add_assoc]
theorem sumS {l : List Int} (h : ∀ x ∈ l, 0 ≤ x) (hl : l.length ≤ 1000) (hb : sm l ≤ 1000000000000) {n : Nat} (hn : l.length < n) : d_money_Sum n l = some (sm l, 0) := by
  unfold d_money_Sum
  have := sumG l h hl l.length 0 n 0 (by omega) hn (Int.le_refl 0) (by rw [List.drop_zero]; omega)
  rw [List.drop_zero, Int.zero_add] at this
  exact v_bi this rfl
theorem totG (l : List GLayer) (hl : l.length ≤ 1000) : ∀ (d k n : Nat) (a b c : List Int), k + d = l.length → d < n → a.length ≤ k → b.length ≤ k → c.length ≤ k →
    d_fifo_Total_L0 l n (k : Int) a b c = some (a ++ (l.drop k).map (·.Qty), b ++ (l.drop k).map (·.Value), c ++ (l.drop k).map (·.Profit))
  | _, _, 0, _, _, _, _, hn, _, _, _ => by omega
  | 0, k, n + 1, a, b, c, hk, hn, ha, hb, hc => by
    rw [d_fifo_Total_L0, List.drop_of_length_le (by omega)]
    exact v_F (by omega) (v_cF (by simp))
  | d + 1, k, n + 1, a, b, c, hk, hn, ha, hb, hc => by
    have hkl : k < l.length := by omega
    have hx : l[((k : Int)).toNat]? = some l[k] := by simp [hkl]
    have ih := totG l hl d (k + 1) n (a ++ [l[k].Qty]) (b ++ [l[k].Value]) (c ++ [l[k].Profit]) (by omega) (by omega) (by simp; omega) (by simp; omega) (by simp; omega)
    rw [d_fifo_Total_L0, List.drop_eq_getElem_cons hkl]
    refine v_T (by omega) (v_cT (v_ix (by omega) hx (v_bnd (v_as (by simp; omega) (v_bnd (v_as (by simp; omega) (v_bnd (v_as (by simp; omega) (v_w (by omega) ?_)))))))))
    refine ih.trans ?_
    simp only [List.map_cons, List.append_assoc, List.singleton_append]
theorem totL {l : List GLayer} (h : LOk l) (hl : l.length ≤ 100) (hq : sq l ≤ 1000000000) (hv : sv l ≤ 1000000000) {n : Nat} (hn : 100 < n) : d_fifo_Total n l = some (⟨sq l, sv l, 0⟩, 0) := by
  have h1 := totG l (by omega) l.length 0 n [] [] [] (by omega) (by omega) (by simp) (by simp) (by simp)
  simp only [List.drop_zero, List.nil_append] at h1
  have nq : ∀ x ∈ l.map (·.Qty), 0 ≤ x := fun x hx => by obtain ⟨y, hy, rfl⟩ := List.mem_map.1 hx; have := h y hy; omega
  have nv : ∀ x ∈ l.map (·.Value), 0 ≤ x := fun x hx => by obtain ⟨y, hy, rfl⟩ := List.mem_map.1 hx; have := h y hy; omega
  have np : ∀ x ∈ l.map (·.Profit), 0 ≤ x := fun x hx => by obtain ⟨y, hy, rfl⟩ := List.mem_map.1 hx; have := h y hy; omega
  have s1 := sumS nq (by rw [List.length_map]; omega) (by rw [sm_q]; omega) (n := n) (by rw [List.length_map]; omega)
  have s2 := sumS nv (by rw [List.length_map]; omega) (by rw [sm_v]; omega) (n := n) (by rw [List.length_map]; omega)
  have s3 := sumS np (by rw [List.length_map]; omega) (by rw [sm_p h, sm_z]; omega) (n := n) (by rw [List.length_map]; omega)
  rw [sm_q] at s1; rw [sm_v] at s2; rw [sm_p h, sm_z, ← sm_p h] at s3
  unfold d_fifo_Total
  refine v_bi h1 (v_p2 (v_p2 (v_bi (v_bi s1 (v_F (show ¬ ((0 : Int) ≠ 0) by decide) (v_as rfl (v_bi s2 (v_F (show ¬ ((0 : Int) ≠ 0) by decide) (v_as rfl (v_bi s3 (v_F (show ¬ ((0 : Int) ≠ 0) by decide) (v_as rfl rfl))))))))) rfl)))
theorem styG (l : List GLayer) (h : LOk l) (hl : l.length ≤ 1000) : ∀ (d k n : Nat) (a : List Int), k + d = l.length → d < n → a.length ≤ k → d_fifo_steady_L0 l n (k : Int) a = some (a ++ (l.drop k).map fun _ => 0)
  | _, _, 0, _, _, hn, _ => by omega
  | 0, k, n + 1, a, hk, hn, ha => by
    rw [d_fifo_steady_L0, List.drop_of_length_le (by omega)]
    exact v_F (by omega) (v_cF (by simp))
  | d + 1, k, n + 1, a, hk, hn, ha => by
    have hkl : k < l.length := by omega
    have hx : l[((k : Int)).toNat]? = some l[k] := by simp [hkl]
    have hp := (h l[k] (List.getElem_mem hkl)).2.2
    have ih := styG l h hl d (k + 1) n (a ++ [0]) (by omega) (by omega) (by simp; omega)
    rw [d_fifo_steady_L0, List.drop_eq_getElem_cons hkl]
    refine v_T (by omega) (v_cT (v_ix (by omega) hx (v_w (by omega) (v_ifF (by omega) (v_bnd (v_as (by simp; omega) (v_w (by omega) ?_)))))))
    rw [hp]
    refine ih.trans ?_
    simp only [List.map_cons, List.append_assoc, List.singleton_append]
theorem sL1 (p : GPool) (h : LOk p.Layers) (hl : p.Layers.length ≤ 1000) : ∀ (d k n : Nat) (a : List Int), k + d = p.Layers.length → d < n → a.length ≤ 1000 + k → d_stock_steady_L1 p n (k : Int) a = some (a ++ (p.Layers.drop k).map fun _ => 0)
  | _, _, 0, _, _, hn, _ => by omega
  | 0, k, n + 1, a, hk, hn, ha => by
    rw [d_stock_steady_L1, List.drop_of_length_le (by omega)]
    exact v_F (by omega) (v_cF (by simp))
  | d + 1, k, n + 1, a, hk, hn, ha => by
    have hkl : k < p.Layers.length := by omega
    have hx : p.Layers[((k : Int)).toNat]? = some p.Layers[k] := by simp [hkl]
    have hp := (h p.Layers[k] (List.getElem_mem hkl)).2.2
    have ih := sL1 p h hl d (k + 1) n (a ++ [0]) (by omega) (by omega) (by simp; omega)
    rw [d_stock_steady_L1, List.drop_eq_getElem_cons hkl]
    refine v_T (by omega) (v_cT (v_ix (by omega) hx (v_w (by omega) (v_ifF (by omega) (v_bnd (v_as (by simp; omega) (v_w (by omega) ?_)))))))
    rw [hp]
    refine ih.trans ?_
    simp only [List.map_cons, List.append_assoc, List.singleton_append]
theorem rgtG (l : List GLayer) (h : LOk l) (hq : sq l ≤ 1000000000) (hv : sv l ≤ 1000000000) (hl : l.length ≤ 1000) : ∀ (d k n : Nat), k + d = l.length → d < n → d_fifo_Right_L0 l n (k : Int) = some (.inl ())
  | _, _, 0, _, hn => by omega
  | 0, k, n + 1, hk, hn => by
    rw [d_fifo_Right_L0]
    exact v_F (by omega) (v_cF rfl)
  | d + 1, k, n + 1, hk, hn => by
    have hkl : k < l.length := by omega
    have hx : l[((k : Int)).toNat]? = some l[k] := by simp [hkl]
    have hm := List.getElem_mem hkl
    have h0 := h l[k] hm
    have h1 := sq_le h l[k] hm
    have h2 := sv_le h l[k] hm
    have ih := rgtG l h hq hv hl d (k + 1) n (by omega) (by omega)
    have hw : d_fifo_wrong l[k] = some false := wrong_v (q := l[k].Qty) (v := l[k].Value) (p := l[k].Profit) (by omega) (by omega) (by omega)
    rw [d_fifo_Right_L0]
    exact v_T (by omega) (v_cT (v_ix (by omega) hx (v_bi hw (v_cF (v_w (by omega) ih)))))
theorem zer {α : Type} {l : List α} : ∀ x ∈ l.map (fun _ => (0 : Int)), 0 ≤ x := fun x hx => by obtain ⟨y, _, rfl⟩ := List.mem_map.1 hx; omega
theorem rgtL {l : List GLayer} (h : LOk l) (hl : l.length ≤ 30) (hq : sq l ≤ 1000000000) (hv : sv l ≤ 1000000000) {n : Nat} (hn : 100 < n) : d_fifo_Right n l = some true := by
  have h1 := rgtG l h hq hv (by omega) l.length 0 n (by omega) (by omega)
  have h2 := styG l h (by omega) l.length 0 n [] (by omega) (by omega) (by simp)
  have h3 := sumS (l := l.map fun _ => 0) zer (by rw [List.length_map]; omega) (by rw [sm_z]; omega) (n := n) (by rw [List.length_map]; omega)
  rw [sm_z] at h3
  rw [List.drop_zero, List.nil_append] at h2
  have h4 : d_fifo_steady n l = some true := by
    unfold d_fifo_steady
    exact v_bi h2 (v_bi h3 (v_T rfl rfl))
  unfold d_fifo_Right
  refine v_bi (a := false) (v_F (by omega) (v_cF (v_bi (a := false) (v_bi (a := -1) (v_bi h1 (v_selb rfl)) (v_F (by decide) rfl)) rfl))) ?_
  exact v_as rfl (v_bi (totL h (by omega) hq hv hn) (v_bi (a := true) (v_T rfl (v_cT (v_bi h4 rfl))) rfl))
theorem LOk.app {l : List GLayer} (h : LOk l) {q v : Int} (hq : 1 ≤ q) (hv : 0 ≤ v) : LOk (l ++ [⟨q, v, 0⟩]) := fun x hx => by
  rcases List.mem_append.1 hx with h1 | h1
  · exact h x h1
  · rw [List.mem_singleton.1 h1]; exact ⟨hq, hv, rfl⟩
end Go.Pv
