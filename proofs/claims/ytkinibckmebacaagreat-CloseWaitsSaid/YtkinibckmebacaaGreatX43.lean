/- CloseWaits: the close. -/
import Derived.Test.YtkinibckmebacaaGreatI43
set_option linter.unusedSimpArgs false
set_option linter.unusedVariables false
namespace Go.Pv
open Go.Proofs
set_option maxRecDepth 100000
set_option maxHeartbeats 4000000
def xF (q v g b c d k : Int) : GEnt := ⟨1, false, [⟨lay (q - g) (v - k), ⟨0, 0, 0⟩⟩, ⟨[], ⟨0, 0, 0⟩⟩], [v - k, b, 0, c, d, k, 0, 0, 0, 0, 0, 0, 0, 0, 0, 0, 0], [⟨0, v, 0, 0, 0, k, 0, 0, 0, 0, 0⟩], [-1], [0], []⟩
theorem incSml : ∀ (l : List Nat) (o : List Int) (b : Int), 0 ≤ b → Sml o b → Sml (inc o l) (b + l.length)
  | [], o, b, hb, h => by simpa [inc] using h
  | i :: l, o, b, hb, h => by
    have := incSml l (o.set i (at0 o i + 1)) (b + 1) (by omega) (fun j => by
      have h1 := h j; have h2 := h i
      rw [at0_set]; split <;> omega)
    intro j
    have := this j
    have e : inc o (i :: l) = inc (o.set i (at0 o i + 1)) l := rfl
    rw [e, List.length_cons]; push_cast; omega
theorem ofLs (k : Nat) : ofL (List.range k) ++ [(k : Int)] = ofL (List.range (k + 1)) := by unfold ofL; rw [List.range_succ, List.map_append]; rfl
theorem spr0 {x : GEnt} (hnow : x.Now = 1) {rc : List GReceipt} {dn : Int} {w : List Int} (hx : ∀ y ∈ w, 1 ≤ y ∧ y ≤ 20) (hl : w.length ≤ 40) : ∀ (d k n : Nat) (f : Bool), k + d = w.length → d < n →
    d_close_spread_L0 (sW x rc (w.map sal) dn) 0 0 0 n f (k : Int) (ofL (List.range k)) (w.take k) = some (f || decide (k < w.length), ofL (List.range w.length), w) := by
  intro d
  induction d with
  | zero =>
    intro k n f hk hn
    obtain ⟨n, rfl⟩ : ∃ m, n = m + 1 := ⟨n - 1, by omega⟩
    obtain rfl : k = w.length := by omega
    rw [d_close_spread_L0]
    refine v_F (by simp [sW]) (v_cF ?_)
    rw [List.take_length, show decide (w.length < w.length) = false by simp]; simp
  | succ d ih =>
    intro k n f hk hn
    obtain ⟨n, rfl⟩ : ∃ m, n = m + 1 := ⟨n - 1, by omega⟩
    have hkl : k < w.length := by omega
    have hb := hx _ (List.getElem_mem hkl)
    have hs : (w.map sal)[((k : Int)).toNat]? = some (sal w[k]) := by simp [hkl]
    have ih := ih (k + 1) n true (by omega) (by omega)
    have hwt : d_close_waits (sal w[k]) 0 1 = some true := by
      unfold d_close_waits
      exact v_bi (a := true) (v_bnd (v_cT (v_T rfl (v_cT (v_T rfl rfl))))) rfl
    have e1 : ofL (List.range (k + 1)) = ofL (List.range k) ++ [(k : Int)] := (ofLs k).symm
    have e2 : w.take (k + 1) = w.take k ++ [w[k]] := (List.take_append_getElem hkl).symm
    rw [d_close_spread_L0]
    refine v_T (by simp [sW]; omega) (v_cT (v_bi (a := (true, ofL (List.range (k + 1)), w.take (k + 1))) (v_ix (by omega) hs ?_) ?_))
    · refine v_bi (a := true) (v_ix (show (0 : Int) ≤ 0 by decide) rfl (v_bi (by rw [hnow]; exact hwt) (v_cT (v_T rfl (v_cT (v_T rfl rfl)))))) (v_cT ?_)
      refine v_w (by simp only [sal]; omega) ?_
      rw [e1, e2]
      have e3 : (sal w[k]).Qty - (sal w[k]).Back = w[k] := Int.sub_zero _
      rw [e3]
      refine v_bnd (v_as (by rw [List.length_append, ofL_len, List.length_range, List.length_singleton]; omega) (v_bnd (v_as (by rw [List.length_append, List.length_take, List.length_singleton]; omega) ?_)))
      refine v_bi (a := true) ?_ rfl
      cases f
      · exact v_cF (v_T (by show w[k] > 0; omega) rfl)
      · exact v_cT rfl
    · refine v_p2 (v_p2 (v_w (by omega) ?_))
      refine ih.trans ?_
      rw [show decide (k < w.length) = true by simp [hkl], Bool.or_true, Bool.true_or]
def salD (sh pf w : List Int) (j : Nat) : GSale := ⟨0, 0, 0, at0 w j, 0, at0 sh j, at0 pf j, 1, true⟩
theorem at0e {w : List Int} {k : Nat} (h : k < w.length) : at0 w k = w[k] := by have := at0_get h; rw [List.getElem?_eq_getElem h] at this; exact (Option.some.inj this).symm
theorem set2 {A R : List GSale} {y z : GSale} {k : Nat} (h : A.length = k) : (A ++ y :: R).set (((k : Nat) : Int).toNat) z = A ++ z :: R := by
  rw [Int.toNat_natCast, List.set_append_right _ _ (by omega), h, Nat.sub_self, List.set_cons_zero]
theorem spr1 {sh pf w : List Int} (hs : sh.length = w.length) (hp : pf.length = w.length) (hl : w.length ≤ 40) {B : Int} (hB : 0 ≤ B ∧ B ≤ 1000000000) (hpf : Sml pf B) : ∀ (d k n : Nat), k + d = w.length → d < n →
    d_close_spread_L1 (ofL (List.range w.length)) (sh, 0) (pf, 0) n (k : Int) ((List.range k).map (salD sh pf w) ++ (w.drop k).map sal) = some ((List.range w.length).map (salD sh pf w)) := by
  intro d
  induction d with
  | zero =>
    intro k n hk hn
    obtain ⟨n, rfl⟩ : ∃ m, n = m + 1 := ⟨n - 1, by omega⟩
    obtain rfl : k = w.length := by omega
    rw [d_close_spread_L1]
    refine v_F (by rw [ofL_len, List.length_range]; omega) (v_cF ?_)
    rw [List.drop_length]; simp
  | succ d ih =>
    intro k n hk hn
    obtain ⟨n, rfl⟩ : ∃ m, n = m + 1 := ⟨n - 1, by omega⟩
    have hkl : k < w.length := by omega
    have ih := ih (k + 1) n (by omega) (by omega)
    have hi : (ofL (List.range w.length))[((k : Int)).toNat]? = some ((k : Nat) : Int) := by rw [Int.toNat_natCast]; exact ofL_at (by simp [hkl])
    have h1 : sh[((k : Int)).toNat]? = some (at0 sh k) := by rw [Int.toNat_natCast]; exact at0_get (by omega)
    have h2 : pf[((k : Int)).toNat]? = some (at0 pf k) := by rw [Int.toNat_natCast]; exact at0_get (by omega)
    have hA : ((List.range k).map (salD sh pf w)).length = k := by simp
    have hpk := hpf k
    have ed : (w.drop k).map sal = sal w[k] :: (w.drop (k + 1)).map sal := by rw [List.drop_eq_getElem_cons hkl]; rfl
    have h3 : ((List.range k).map (salD sh pf w) ++ sal w[k] :: (w.drop (k + 1)).map sal)[((k : Int)).toNat]? = some (sal w[k]) := by
      rw [Int.toNat_natCast, List.getElem?_append_right (by omega), hA, Nat.sub_self]; rfl
    rw [d_close_spread_L1, ed]
    refine v_T (by rw [ofL_len, List.length_range]; omega) (v_cT (v_ix (by omega) hi (v_ix (by omega) h1 (v_ix (by omega) h2 (v_w (by omega) (v_ix (by omega) h3 (v_bnd ?_)))))))
    rw [set2 hA]
    refine v_bnd ?_
    rw [set2 hA]
    refine v_w (by omega) ?_
    have e : (List.range (k + 1)).map (salD sh pf w) = (List.range k).map (salD sh pf w) ++ [⟨(sal w[k]).Entity, (sal w[k]).Item, (sal w[k]).Loc, (sal w[k]).Qty, (sal w[k]).Back, at0 sh k, 1 * at0 pf k, (sal w[k]).Period, (sal w[k]).Waits⟩] := by
      rw [List.range_succ, List.map_append, Int.one_mul]
      show _ ++ [salD sh pf w k] = _
      unfold salD
      rw [at0e hkl]; rfl
    rw [e, List.append_assoc] at ih
    exact ih
theorem incLen (o : List Int) (l : List Nat) : (inc o l).length = o.length := inc_len l o
theorem sprV {x : GEnt} (hnow : x.Now = 1) {rc : List GReceipt} {dn : Int} {w : List Int} {k g p : Int} (h : WOk k g w) {n : Nat} (hn : 100 < n) : ∃ s : List Nat, ∃ m : Nat, ∃ pf : List Int,
    s.Perm (List.range w.length) ∧ s.Pairwise (bef (rL k g w)) ∧ ((m : Nat) : Int) = k - sm (oL k g w) ∧ m ≤ w.length ∧
    d_close_spread n (sW x rc (w.map sal) dn) 0 0 0 ⟨p, k, 0⟩ = some (sW x rc ((List.range w.length).map (salD (inc (oL k g w) (s.take m)) pf w)) dn, 0) := by
  have hnn := h.hn
  obtain ⟨s, m, hp, hw, hm, hml, hs⟩ := partsV h hn
  have h0 : WOk 0 g w := ⟨by omega, h.hg, h.hn, h.hx, h.hs⟩
  obtain ⟨s0, m0, hp0, hw0, hm0, hml0, hs0⟩ := partsV h0 hn
  refine ⟨s, m, inc (oL 0 g w) (s0.take m0), hp, hw, hm, hml, ?_⟩
  have hw1 : 0 < w.length := by
    rcases Nat.eq_zero_or_pos w.length with e | e
    · have := h.hs; rw [List.eq_nil_of_length_eq_zero e] at this; have := h.hg; simp only [sm] at *; omega
    · exact e
  have a0 := spr0 hnow (rc := rc) (dn := dn) h.hx (by omega) w.length 0 n false (Nat.zero_add _) (by omega)
  have l1 : (inc (oL k g w) (s.take m)).length = w.length := by rw [incLen]; unfold oL; rw [List.length_map]
  have l2 : (inc (oL 0 g w) (s0.take m0)).length = w.length := by rw [incLen]; unfold oL; rw [List.length_map]
  have hS := incSml (s0.take m0) (oL 0 g w) 240000 (by decide) (oLB h0)
  have hlt : (s0.take m0).length ≤ 12 := by rw [List.length_take]; omega
  have a1 := spr1 l1 l2 (by omega) (by omega) hS w.length 0 n (Nat.zero_add _) (by omega)
  unfold d_close_spread
  refine v_bi a0 ?_
  refine v_p2 (v_p2 ?_)
  rw [show (false || decide (0 < w.length)) = true by simp [hw1]]
  refine v_nT (v_as rfl (v_F (show ¬ ((0 : Int) < 0) by decide) (v_as rfl (v_bi hs (v_F (show ¬ ((0 : Int) ≠ 0) by decide) (v_as rfl (v_w (by dsimp only; omega) ?_)))))))
  refine v_bi hs0 (v_F (show ¬ ((0 : Int) ≠ 0) by decide) (v_as rfl (v_as (by simp [sW]; omega) ?_)))
  refine v_bi a1 ?_
  rfl
theorem setlV {q v g b c d : Int} (h : Nm q v g b c d) (hg : 1 ≤ g) {rc : List GReceipt} {dn : Int} {w : List Int} {k : Int} (hk : k = (v * g).tdiv q) (hw : WOk k g w) {n : Nat} : ∃ s : List Nat, ∃ m : Nat, ∃ pf : List Int,
    s.Perm (List.range w.length) ∧ s.Pairwise (bef (rL k g w)) ∧ ((m : Nat) : Int) = k - sm (oL k g w) ∧ m ≤ w.length ∧
    d_close_settle (n + 200) (sW (en q v g b c d) rc (w.map sal) dn) 0 0 0 ⟨lay q v, ⟨g, 0, 0⟩⟩ = some (sW (xF q v g b c d k) rc ((List.range w.length).map (salD (inc (oL k g w) (s.take m)) pf w)) dn, 0) := by
  have hq := h.hq; have hv := h.hv; have hgq := h.hg; have hb := h.hb; have hc := h.hc; have hd := h.hd; have hka := hw.ha
  have hS := settlV (q := q) (v := v) (g := g) (by omega) (by omega) hv (n := n + 180)
  rw [← hk] at hS
  obtain ⟨s, m, pf, h1, h2, h3, h4, h5⟩ := sprV (x := xF q v g b c d k) rfl (rc := rc) (dn := dn) (p := g) hw (n := n + 200) (by omega)
  refine ⟨s, m, pf, h1, h2, h3, h4, ?_⟩
  have hpo : d_stock_Post (n + 200) (sW ⟨1, false, [⟨lay (q - g) (v - k), ⟨0, 0, 0⟩⟩, ⟨[], ⟨0, 0, 0⟩⟩], (en q v g b c d).Bal, (en q v g b c d).Rolls, [-1], [0], []⟩ rc (w.map sal) dn) 0 [⟨5, k⟩, ⟨7, 0⟩, ⟨8, 0⟩, ⟨0, 0 - k - 0 - 0⟩] =
      some (sW ⟨1, false, [⟨lay (q - g) (v - k), ⟨0, 0, 0⟩⟩, ⟨[], ⟨0, 0, 0⟩⟩], [v - k, b, 0, c, d, k, 0, 0, 0, 0, 0, 0, 0, 0, 0, 0, 0], (en q v g b c d).Rolls, [-1], [0], []⟩ rc (w.map sal) dn, 0) := by
    by_cases h0 : k = 0
    · subst h0
      refine (post_v (by decide) rfl (by simp [sW]) (plS0 (n := n + 188)) (glB (n := n + 186) rfl)).trans ?_
      rw [Int.sub_zero]; rfl
    · refine (post_v (by decide) rfl (by simp [sW]) (plS (n := n + 188) (by omega) (by omega) h0 (by omega)) (glS (n := n + 186) rfl rfl (by omega) rfl (by omega) (by omega) h0 (by omega))).trans ?_
      show some (sW ⟨_, _, _, [v + (0 - k - 0 - 0), b, 0, c, d, 0 + k, 0, 0, 0, 0, 0, 0, 0, 0, 0, 0, 0], _, _, _, _⟩ _ _ _, (0 : Int)) = _
      rw [show v + (0 - k - 0 - 0) = v - k by omega, Int.zero_add]
      rfl
  have htu := turn_v (atW ⟨1, false, [⟨lay (q - g) (v - k), ⟨0, 0, 0⟩⟩, ⟨[], ⟨0, 0, 0⟩⟩], [v - k, b, 0, c, d, k, 0, 0, 0, 0, 0, 0, 0, 0, 0, 0, 0], (en q v g b c d).Rolls, [-1], [0], []⟩ rfl rfl rc (w.map sal) dn) (r1 := 0) (r2 := v) (r3 := 0) (r4 := 0) (r5 := 0) (r6 := 0) (r7 := 0) (r8 := 0) (r9 := 0) (r10 := 0) (r11 := 0) (q1 := 0) (q2 := 0) (q3 := 0) (q4 := 0) (q5 := 0) (q6 := k) (q7 := 0) (q8 := 0) (q9 := 0) (q10 := 0) (q11 := 0) rfl (by omega) (by omega) (by omega) (by omega) (by omega) (by omega) (by omega) (by omega) (by omega) (by omega) (by omega)
  unfold d_close_settle
  refine v_bi hS (v_as (by simp [sW]) (v_ix (show (0 : Int) ≤ 0 by decide) rfl (v_as (by simp [en]) (v_w (by decide) (v_w (by decide) (v_ix (by decide) rfl (v_bnd (v_w (by dsimp only; omega) (v_w (by dsimp only; omega) (v_w (by dsimp only; omega) ?_))))))))))
  refine v_bi hpo (v_F (show ¬ ((0 : Int) ≠ 0) by decide) (v_as rfl (v_bi htu (v_F (show ¬ ((0 : Int) ≠ 0) by decide) (v_as rfl ?_)))))
  refine v_bi (a := (sW (xF q v g b c d k) rc ((List.range w.length).map (salD (inc (oL k g w) (s.take m)) pf w)) dn, 0)) ?_ rfl
  refine Eq.trans ?_ h5
  rw [Int.add_zero v, Int.zero_add k]; rfl
end Go.Pv
