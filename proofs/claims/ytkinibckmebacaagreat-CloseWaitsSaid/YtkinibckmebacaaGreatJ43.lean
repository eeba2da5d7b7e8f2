/- CloseWaits: a cost split among sales, by the program and by the document. -/
import Derived.Test.YtkinibckmebacaaGreatSp43
import Derived.Test.YtkinibckmebacaaGreatV43
import Derived.Test.YtkinibckmebacaaGreatU43
set_option linter.unusedSimpArgs false
set_option linter.unusedVariables false
namespace Go.Pv
open Go.Proofs
set_option maxRecDepth 100000
set_option maxHeartbeats 4000000
def oL (a g : Int) (w : List Int) : List Int := w.map fun x => (a * x).tdiv g
def rL (a g : Int) (w : List Int) : List Int := w.map fun x => (a * x).tmod g
structure WOk (a g : Int) (w : List Int) : Prop where
  ha : 0 ≤ a ∧ a ≤ 12000
  hg : 1 ≤ g ∧ g ≤ 1000
  hn : w.length ≤ 12
  hx : ∀ x ∈ w, 1 ≤ x ∧ x ≤ 20
  hs : sm w = g
theorem axB {a x : Int} (ha : 0 ≤ a ∧ a ≤ 12000) (hx : 1 ≤ x ∧ x ≤ 20) : 0 ≤ a * x ∧ a * x ≤ 240000 := by
  have h1 : 0 ≤ a * x := Int.mul_nonneg ha.1 (by omega)
  have h2 : a * x ≤ 12000 * 20 := Int.mul_le_mul ha.2 hx.2 (by omega) (by decide)
  omega
theorem dmB {a x g : Int} (ha : 0 ≤ a ∧ a ≤ 12000) (hx : 1 ≤ x ∧ x ≤ 20) (hg : 1 ≤ g) : a * x = g * (a * x).tdiv g + (a * x).tmod g ∧ (0 ≤ (a * x).tmod g ∧ (a * x).tmod g < g) ∧ (0 ≤ (a * x).tdiv g ∧ (a * x).tdiv g ≤ 240000) := by
  have h := axB ha hx
  have h1 := Int.mul_tdiv_add_tmod (a * x) g
  have h2 := Int.tmod_nonneg g h.1
  have h3 := Int.tmod_lt_of_pos (a * x) (show 0 < g by omega)
  have h4 := Int.tdiv_nonneg h.1 (show 0 ≤ g by omega)
  have h5 := Int.tdiv_le_self g h.1
  exact ⟨h1.symm, ⟨h2, h3⟩, h4, by omega⟩
theorem getZ {A : List Int} {k d : Nat} (h : A.length = k) : (A ++ List.replicate (d + 1) (0 : Int))[((k : Nat) : Int).toNat]? = some 0 := by
  rw [Int.toNat_natCast, List.getElem?_append_right (by omega), h, Nat.sub_self]; rfl
theorem setZ {A : List Int} {k d : Nat} {v : Int} (h : A.length = k) : (A ++ List.replicate (d + 1) (0 : Int)).set (((k : Nat) : Int).toNat) v = (A ++ [v]) ++ List.replicate d 0 := by
  rw [Int.toNat_natCast, List.set_append_right _ _ (by omega), h, Nat.sub_self, List.replicate_succ, List.set_cons_zero, List.append_assoc]; rfl
theorem oLs {a g : Int} {w : List Int} {k : Nat} (h : k < w.length) : oL a g (w.take (k + 1)) = oL a g (w.take k) ++ [(a * w[k]).tdiv g] := by
  unfold oL; rw [← List.take_append_getElem h, List.map_append]; rfl
theorem rLs {a g : Int} {w : List Int} {k : Nat} (h : k < w.length) : rL a g (w.take (k + 1)) = rL a g (w.take k) ++ [(a * w[k]).tmod g] := by
  unfold rL; rw [← List.take_append_getElem h, List.map_append]; rfl
theorem oLn {a g : Int} {w : List Int} {k : Nat} (h : k ≤ w.length) : (oL a g (w.take k)).length = k := by unfold oL; rw [List.length_map, List.length_take]; omega
theorem rLn {a g : Int} {w : List Int} {k : Nat} (h : k ≤ w.length) : (rL a g (w.take k)).length = k := by unfold rL; rw [List.length_map, List.length_take]; omega
theorem p2L {a g : Int} {w : List Int} (h : WOk a g w) : ∀ (d k n : Nat) (y : Int), k + d = w.length → d + 13 < n → -100000000 + 240000 * d ≤ y → y ≤ 100000000 →
    d_parts_Split_L2 a w (g, 0) n y (k : Int) (oL a g (w.take k) ++ List.replicate d 0) (rL a g (w.take k) ++ List.replicate d 0) = some (y - sm (oL a g (w.drop k)), oL a g w, rL a g w) := by
  intro d
  induction d with
  | zero =>
    intro k n y hk hn h1 h2
    obtain ⟨n, rfl⟩ : ∃ m, n = m + 1 := ⟨n - 1, by omega⟩
    rw [d_parts_Split_L2, List.drop_of_length_le (by omega), List.take_of_length_le (by omega)]
    exact v_F (by omega) (v_cF (by simp [oL, sm]))
  | succ d ih =>
    intro k n y hk hn h1 h2
    obtain ⟨n, rfl⟩ : ∃ m, n = m + 1 := ⟨n - 1, by omega⟩
    have hkl : k < w.length := by omega
    have hnn := h.hn
    have hx : w[((k : Int)).toNat]? = some w[k] := by simp [hkl]
    have hb := h.hx _ (List.getElem_mem hkl)
    have hmd : d_money_MulDiv n a w[k] g = some ((a * w[k]).tdiv g, (a * w[k]).tmod g, 0) := by
      obtain ⟨m, rfl⟩ : ∃ m, n = m + 12 := ⟨n - 12, by omega⟩
      exact muldiv_v (n := m) (a := a) (b := w[k]) (c := g) (by have := h.ha; omega) (by omega) (by have := h.hg; omega)
    have hd := (dmB h.ha hb h.hg.1).2.2
    have ih := ih (k + 1) n (y - (a * w[k]).tdiv g) (by omega) (by omega) (by omega) (by omega)
    rw [d_parts_Split_L2]
    refine v_T (by omega) (v_cT (v_ix (by omega) hx (v_bi hmd (v_ix (by omega) (getZ (oLn (by omega))) (v_bnd (v_ix (by omega) (getZ (rLn (by omega))) (v_bnd (v_w (by dsimp only; omega) (v_w (by omega) ?_)))))))))
    rw [setZ (oLn (by omega)), setZ (rLn (by omega)), ← oLs hkl, ← rLs hkl]
    refine ih.trans ?_
    rw [List.drop_eq_getElem_cons hkl]
    show _ = some (y - ((a * w[k]).tdiv g + sm (oL a g (w.drop (k + 1)))), _, _)
    rw [Int.sub_sub]
theorem q2L {a g : Int} {w : List Int} (h : WOk a g w) : ∀ (d k n : Nat) (y : Int), k + d = w.length → d + 66 < n → -100000000 + 240000 * d ≤ y → y ≤ 100000000 →
    d_law23_CloseWaits_L2 w a (g, 0) n y (k : Int) (oL a g (w.take k)) (rL a g (w.take k)) = some (y - sm (oL a g (w.drop k)), oL a g w, rL a g w) := by
  intro d
  induction d with
  | zero =>
    intro k n y hk hn h1 h2
    obtain ⟨n, rfl⟩ : ∃ m, n = m + 1 := ⟨n - 1, by omega⟩
    rw [d_law23_CloseWaits_L2, List.drop_of_length_le (by omega), List.take_of_length_le (by omega)]
    exact v_F (by omega) (v_cF (by simp [oL, sm]))
  | succ d ih =>
    intro k n y hk hn h1 h2
    obtain ⟨n, rfl⟩ : ∃ m, n = m + 1 := ⟨n - 1, by omega⟩
    have hkl : k < w.length := by omega
    have hnn := h.hn
    have hx : w[((k : Int)).toNat]? = some w[k] := by simp [hkl]
    have hb := h.hx _ (List.getElem_mem hkl)
    have ha := h.ha; have hg := h.hg
    obtain ⟨e1, e2, e3⟩ := dmB h.ha hb h.hg.1
    have hmd : d_ref01_MulDiv n a w[k] g = some ((a * w[k]).tdiv g, (a * w[k]).tmod g, 0) := by
      obtain ⟨m, rfl⟩ : ∃ m, n = m + 65 := ⟨n - 65, by omega⟩
      exact rmd (n := m) (a := a) (b := w[k]) (c := g) (by omega) (by omega) (by omega) (e1.trans (by rw [Int.mul_comm])) e2 (by omega)
    have ih := ih (k + 1) n (y - (a * w[k]).tdiv g) (by omega) (by omega) (by omega) (by omega)
    have o1 := oLn (a := a) (g := g) (w := w) (k := k + 1) (by omega)
    have o2 := rLn (a := a) (g := g) (w := w) (k := k + 1) (by omega)
    rw [oLs hkl] at o1; rw [rLs hkl] at o2
    rw [d_law23_CloseWaits_L2]
    refine v_T (by omega) (v_cT (v_ix (by omega) hx (v_bi hmd (v_bnd (v_as (by rw [o1]; omega) (v_bnd (v_as (by rw [o2]; omega) (v_w (by dsimp only; omega) (v_w (by omega) ?_)))))))))
    rw [← oLs hkl, ← rLs hkl]
    refine ih.trans ?_
    rw [List.drop_eq_getElem_cons hkl]
    show _ = some (y - ((a * w[k]).tdiv g + sm (oL a g (w.drop (k + 1)))), _, _)
    rw [Int.sub_sub]
theorem sums {a g : Int} (ha : 0 ≤ a ∧ a ≤ 12000) (hg : 1 ≤ g) : ∀ w : List Int, (∀ x ∈ w, 1 ≤ x ∧ x ≤ 20) → a * sm w = g * sm (oL a g w) + sm (rL a g w) ∧ 0 ≤ sm (rL a g w) ∧ sm (rL a g w) ≤ (w.length : Int) * (g - 1)
  | [], _ => by simp [sm, oL, rL]
  | x :: w, h => by
    obtain ⟨h1, h2, h3⟩ := sums ha hg w (fun y hy => h y (List.mem_cons_of_mem _ hy))
    obtain ⟨e1, e2, e3⟩ := dmB ha (h x (List.mem_cons_self ..)) hg
    have u1 : sm (oL a g (x :: w)) = (a * x).tdiv g + sm (oL a g w) := rfl
    have u2 : sm (rL a g (x :: w)) = (a * x).tmod g + sm (rL a g w) := rfl
    have u3 : sm (x :: w) = x + sm w := rfl
    have u4 : ((x :: w).length : Int) * (g - 1) = (w.length : Int) * (g - 1) + (g - 1) := by rw [List.length_cons]; push_cast; rw [Int.add_mul, Int.one_mul]
    rw [u1, u2, u3, u4, Int.mul_add, Int.mul_add]
    omega
theorem lft {a g : Int} {w : List Int} (h : WOk a g w) : 0 ≤ a - sm (oL a g w) ∧ a - sm (oL a g w) ≤ (w.length : Int) := by
  obtain ⟨h1, h2, h3⟩ := sums h.ha h.hg.1 w h.hx
  have hg := h.hg
  rw [h.hs] at h1
  generalize sm (oL a g w) = o at *
  generalize sm (rL a g w) = r at *
  have h4 : g * (a - o) = r := by rw [Int.mul_sub, Int.mul_comm g a]; omega
  have h5 : (w.length : Int) * (g - 1) ≤ (w.length : Int) * g := Int.mul_le_mul_of_nonneg_left (by omega) (by omega)
  constructor
  · rcases Int.lt_or_le (a - o) 0 with hc | hc
    · have : g * (a - o) ≤ g * (-1) := Int.mul_le_mul_of_nonneg_left (by omega) (by omega)
      omega
    · exact hc
  · rcases Int.lt_or_le (w.length : Int) (a - o) with hc | hc
    · have : g * ((w.length : Int) + 1) ≤ g * (a - o) := Int.mul_le_mul_of_nonneg_left (by omega) (by omega)
      rw [Int.mul_add, Int.mul_comm g (w.length : Int)] at this
      omega
    · exact hc
theorem oLB {a g : Int} {w : List Int} (h : WOk a g w) : Sml (oL a g w) 240000 := fun i => by
  unfold at0
  rw [List.getD_eq_getElem?_getD]
  rcases Nat.lt_or_ge i (oL a g w).length with hi | hi
  · rw [List.getElem?_eq_getElem hi]
    have hm : (oL a g w)[i] ∈ oL a g w := List.getElem_mem hi
    obtain ⟨x, hx, e⟩ := List.mem_map.1 hm
    rw [← e]
    exact (dmB h.ha (h.hx x hx) h.hg.1).2.2
  · rw [List.getElem?_eq_none hi]; decide
theorem rLnn {a g : Int} {w : List Int} (h : WOk a g w) : ∀ i, i < (rL a g w).length → 0 ≤ at0 (rL a g w) i := fun i hi => by
  unfold at0
  rw [List.getD_eq_getElem?_getD, List.getElem?_eq_getElem hi]
  have hm : (rL a g w)[i] ∈ rL a g w := List.getElem_mem hi
  obtain ⟨x, hx, e⟩ := List.mem_map.1 hm
  rw [← e]
  exact (dmB h.ha (h.hx x hx) h.hg.1).2.1.1
theorem sp0 {w : List Int} (hx : ∀ x ∈ w, 1 ≤ x ∧ x ≤ 20) (hl : w.length ≤ 1000) : ∀ (d k n : Nat), k + d = w.length → d < n → d_parts_Split_L0 w n (k : Int) = some (.inl ())
  | _, _, 0, _, hn => by omega
  | 0, k, n + 1, hk, hn => by rw [d_parts_Split_L0]; exact v_F (by omega) (v_cF rfl)
  | d + 1, k, n + 1, hk, hn => by
    have hkl : k < w.length := by omega
    have hw : w[((k : Int)).toNat]? = some w[k] := by simp [hkl]
    have hb := hx _ (List.getElem_mem hkl)
    have h1 : d_parts_Split_1 w[k] = some false := by unfold d_parts_Split_1; exact v_bi (a := false) (v_F (by omega) (v_cF (v_F (by omega) rfl))) rfl
    rw [d_parts_Split_L0]
    exact v_T (by omega) (v_cT (v_ix (by omega) hw (v_bi h1 (v_cF (v_w (by omega) (sp0 hx hl d (k + 1) n (by omega) (by omega)))))))
theorem rng1 {N : Nat} (h : 1 ≤ N) : ([0] ++ List.range' 1 (N - 1)) = List.range N := by
  rw [List.range_eq_range']
  obtain ⟨m, rfl⟩ : ∃ m, N = m + 1 := ⟨N - 1, by omega⟩
  rw [List.range'_succ]; rfl
theorem partsV {a g : Int} {w : List Int} (h : WOk a g w) {n : Nat} (hn : 100 < n) : ∃ s : List Nat, ∃ m : Nat, s.Perm (List.range w.length) ∧ s.Pairwise (bef (rL a g w)) ∧ ((m : Nat) : Int) = a - sm (oL a g w) ∧ m ≤ w.length ∧ d_parts_Split n a w = some (inc (oL a g w) (s.take m), 0) := by
  have hl := lft h
  have ha := h.ha; have hg := h.hg; have hnn := h.hn
  have hro : (rL a g w).length = w.length := by unfold rL; rw [List.length_map]
  have hoo : (oL a g w).length = w.length := by unfold oL; rw [List.length_map]
  have hw1 : 1 ≤ w.length := by
    rcases Nat.eq_zero_or_pos w.length with e | e
    · have := h.hs; rw [List.eq_nil_of_length_eq_zero e] at this; simp only [sm] at this; omega
    · exact e
  have hs0 := sp0 h.hx (by omega) w.length 0 n (Nat.zero_add _) (by omega)
  have hs1 : d_parts_Split_L1 w n 0 = some (.inr 0) := by
    obtain ⟨m, rfl⟩ : ∃ m, n = m + 1 := ⟨n - 1, by omega⟩
    have hw : w[((0 : Int)).toNat]? = some (w[0]'(by omega)) := by simp
    have hb := h.hx _ (List.getElem_mem (show 0 < w.length by omega))
    have h1 : d_parts_Split_2 (w[0]'(by omega)) = some true := by unfold d_parts_Split_2; exact v_T (by omega) rfl
    rw [d_parts_Split_L1]
    exact v_T (by omega) (v_cT (v_ix (by omega) hw (v_bi h1 (v_cT rfl))))
  have hsum := sumS (l := w) (fun x hx => by have := h.hx x hx; omega) (by omega) (by rw [h.hs]; omega) (n := n) (by omega)
  rw [h.hs] at hsum
  have h2 := p2L h w.length 0 n a (Nat.zero_add _) (by omega) (by omega) (by omega)
  have h3 := fill (rL a g w) (by omega) (rL a g w).length 0 n (Nat.zero_add _) (by omega)
  obtain ⟨s, h5, hp, hw⟩ := srt (rL a g w) (ofL (List.range (rL a g w).length)) (by omega) (by rw [ofL_len, List.length_range]) ((rL a g w).length - 1) 1 n [0] (by omega) (by omega) rfl (List.Perm.refl _) (by simp)
  rw [rng1 (by omega)] at h5
  have hsl : s.length = w.length := by rw [hp.length_eq, List.length_range, hro]
  obtain ⟨m, hm⟩ : ∃ m : Nat, ((m : Nat) : Int) = a - sm (oL a g w) := ⟨(a - sm (oL a g w)).toNat, by omega⟩
  have h8 := incs s (fun i hi => by have := mem_r hp i hi; omega) m (by omega) (by omega) m 0 n (oL a g w) 240000 (Nat.zero_add _) (by omega) (fun i hi => by have := mem_r hp i hi; omega) (oLB h) (by omega)
  refine ⟨s, m, by rw [← hro]; exact hp, hw, hm, by omega, ?_⟩
  have hs1' : d_parts_Split_1 a = some false := by unfold d_parts_Split_1; exact v_bi (a := false) (v_F (by omega) (v_cF (v_F (by omega) rfl))) rfl
  unfold d_parts_Split
  refine v_bi (a := false) (v_bi hs1' (v_cF (v_bi (a := false) (v_bi (a := -1) (v_bi hs0 (v_selb rfl)) (v_F (by decide) rfl)) (v_cF (v_bi (a := true) (v_bi (a := 0) (v_bi hs1 (v_sele rfl)) (v_T (by decide) rfl)) (v_nT rfl)))))) ?_
  refine v_as rfl (v_bi hsum (v_F (show ¬ ((0 : Int) ≠ 0) by decide) (v_as rfl (v_as (by omega) (v_bnd (v_as (by omega) (v_bnd ?_)))))))
  refine v_bi h2 ?_
  refine v_p2 (v_p2 ?_)
  refine v_bi (a := ofL s) ?_ ?_
  · refine v_as (by omega) (v_bnd (v_bi (a := ofL (List.range (rL a g w).length)) h3 ?_))
    refine v_bi (a := ofL s) ?_ (v_as (by rw [ofL_len, ofL_len, hsl, List.length_range, hro]) rfl)
    refine v_bi (a := ofL s) ?_ rfl
    refine v_bi (a := ()) ?_ ?_
    · obtain ⟨m, rfl⟩ : ∃ m, n = m + 1 := ⟨n - 1, by omega⟩
      rw [d_parts_Split_L4]
      exact v_F (by rw [ofL_len, List.length_range]; omega) (v_as rfl rfl)
    · refine v_bi (a := ofL s) (v_bi h5 rfl) (v_as (by rw [ofL_len, ofL_len, hsl, List.length_range, hro]) (v_bi (a := ()) ?_ rfl))
      obtain ⟨m, rfl⟩ : ∃ m, n = m + 1 := ⟨n - 1, by omega⟩
      rw [d_parts_Split_L7]
      exact v_F (by rw [ofL_len, List.length_range]; omega) (v_as rfl rfl)
  · have e : (if ((rL a g w).length : Int) < a - sm (oL a g (w.drop 0)) then ((rL a g w).length : Int) else a - sm (oL a g (w.drop 0))) = ((m : Nat) : Int) := by
      rw [List.drop_zero, if_neg (by omega), hm]
    rw [e]
    refine v_bnd (v_as (by rw [ofL_len]; omega) (v_bi h8 ?_))
    rw [List.drop_zero]
theorem docV {a g : Int} {w : List Int} (h : WOk a g w) {n : Nat} (hn : 100 < n) {s : List Nat} {m : Nat} (hp : s.Perm (List.range w.length)) (hw : s.Pairwise (bef (rL a g w))) (hm : m ≤ w.length) :
    d_law23_CloseWaits_L3 n ((m : Nat) : Int) (oL a g w) (rL a g w) = some (inc (oL a g w) (s.take m)) := by
  have hnn := h.hn
  have hro : (rL a g w).length = w.length := by unfold rL; rw [List.length_map]
  have hoo : (oL a g w).length = w.length := by unfold oL; rw [List.length_map]
  have hsl : s.length = w.length := by rw [hp.length_eq, List.length_range]
  have := picks (rL a g w) (by omega) (rLnn h) s (by rw [hro]; exact hp) hw m (by omega) m 0 n (oL a g w) 240000 (Nat.zero_add _) (by omega) (by omega) (oLB h) (by omega)
  rw [List.drop_zero] at this
  exact this
end Go.Pv
