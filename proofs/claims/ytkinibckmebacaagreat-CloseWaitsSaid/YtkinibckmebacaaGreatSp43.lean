/- A sum split: places sorted by their rests, and the greatest rest again and again. -/
import Derived.Test.YtkinibckmebacaaGreatK43d
import Derived.Test.YtkinibckmebacaaGreatPlV
set_option linter.unusedSimpArgs false
set_option linter.unusedVariables false
namespace Go.Pv
set_option maxRecDepth 100000
set_option maxHeartbeats 400000
def at0 (r : List Int) (i : Nat) : Int := r.getD i 0
def bef (r : List Int) (a b : Nat) : Prop := at0 r b < at0 r a ∨ (at0 r a = at0 r b ∧ a < b)
theorem bef_tr {r : List Int} {a b c : Nat} (h : bef r a b) (g : bef r b c) : bef r a c := by unfold bef at *; omega
def ofL (s : List Nat) : List Int := s.map fun i : Nat => (i : Int)
theorem ofL_at {s : List Nat} {j x : Nat} (h : s[j]? = some x) : (ofL s)[j]? = some (x : Int) := by unfold ofL; rw [List.getElem?_map, h]; rfl
theorem ofL_set (s : List Nat) (j x : Nat) : (ofL s).set j (x : Int) = ofL (s.set j x) := by unfold ofL; rw [List.map_set]
theorem ofL_len (s : List Nat) : (ofL s).length = s.length := by unfold ofL; rw [List.length_map]
theorem at0_get {r : List Int} {i : Nat} (h : i < r.length) : r[i]? = some (at0 r i) := by unfold at0; rw [List.getElem?_eq_getElem h]; simp [List.getD, List.getElem?_eq_getElem h]
theorem nan (a : Int) : d_cmp_isNaN_int a = some false := by unfold d_cmp_isNaN_int; exact v_F (by simp) rfl
theorem cmp_lt {a b : Int} (h : a < b) : d_cmp_Compare_int a b = some (-1) := by
  unfold d_cmp_Compare_int
  exact v_bi (nan a) (v_bi (nan b) (v_cF (v_cF (v_T h (v_cT rfl)))))
theorem cmp_ge {a b : Int} (h : ¬ a < b) : ∃ c, d_cmp_Compare_int a b = some c ∧ 0 ≤ c := by
  unfold d_cmp_Compare_int
  by_cases h2 : a > b
  · exact ⟨1, v_bi (nan a) (v_bi (nan b) (v_cF (v_cF (v_F h (v_cF (v_T h2 (v_cT rfl))))))), by decide⟩
  · exact ⟨0, v_bi (nan a) (v_bi (nan b) (v_cF (v_cF (v_F h (v_cF (v_F h2 (v_cF rfl))))))), by decide⟩
theorem get_mid {A R : List Nat} {x : Nat} : (A ++ x :: R)[A.length]? = some x := by simp
theorem get_mid1 {A R : List Nat} {a x : Nat} : (A ++ a :: x :: R)[A.length + 1]? = some x := by simp
theorem swap_mid {A R : List Nat} {a x : Nat} : ((A ++ a :: x :: R).set (A.length + 1) a).set A.length x = A ++ x :: a :: R := by
  simp [List.set_append]
theorem ins (r : List Int) : ∀ (q : Nat) (A B C : List Nat) (x n : Nat), A.length = q → q ≤ 1000 → q < n → x < r.length → (∀ a ∈ A, a < x) → (A ++ B).Pairwise (bef r) → (∀ b ∈ B, bef r x b) →
    ∃ D, d_parts_Split_L6 r n (q : Int) (ofL (A ++ x :: (B ++ C))) = some (ofL (D ++ C)) ∧ D.Pairwise (bef r) ∧ D.Perm (A ++ x :: B)
  | _, _, _, _, _, 0, _, _, hn, _, _, _, _ => by omega
  | 0, A, B, C, x, n + 1, hA, _, hn, hx, ha, hp, hb => by
    have : A = [] := List.eq_nil_of_length_eq_zero hA
    subst this
    refine ⟨x :: B, ?_, List.pairwise_cons.2 ⟨hb, hp⟩, List.Perm.refl _⟩
    rw [d_parts_Split_L6]
    exact v_bi (a := false) (v_F (by decide) (v_cF rfl)) (v_cF rfl)
  | q + 1, A, B, C, x, n + 1, hA, hq, hn, hx, ha, hp, hb => by
    obtain ⟨A', a, rfl⟩ : ∃ A' a, A = A' ++ [a] := ⟨A.dropLast, A.getLast (by intro e; rw [e] at hA; cases hA), (List.dropLast_concat_getLast _).symm⟩
    have hA' : A'.length = q := by simpa using hA
    have hax : a < x := ha a (by simp)
    have har : a < r.length := by omega
    have e1 : A' ++ [a] ++ x :: (B ++ C) = A' ++ a :: x :: (B ++ C) := by simp
    have g1 : (ofL (A' ++ a :: x :: (B ++ C)))[((q + 1 : Nat) : Int).toNat]? = some (x : Int) := by rw [Int.toNat_natCast, ← hA']; exact ofL_at get_mid1
    have g0 : (ofL (A' ++ a :: x :: (B ++ C)))[(((q + 1 : Nat) : Int) - 1).toNat]? = some (a : Int) := by rw [show (((q + 1 : Nat) : Int) - 1).toNat = A'.length by omega]; exact ofL_at get_mid
    have ra : r[((a : Nat) : Int).toNat]? = some (at0 r a) := by rw [Int.toNat_natCast]; exact at0_get har
    have rx : r[((x : Nat) : Int).toNat]? = some (at0 r x) := by rw [Int.toNat_natCast]; exact at0_get hx
    rw [e1, d_parts_Split_L6]
    by_cases hlt : at0 r a < at0 r x
    · have hpa : (A' ++ (a :: B)).Pairwise (bef r) := by simpa using hp
      obtain ⟨D, h1, h2, h3⟩ := ins r q A' (a :: B) C x n hA' (by omega) (by omega) hx (fun b hb' => ha b (by simp [hb'])) hpa (fun b hb' => by
        rcases List.mem_cons.1 hb' with rfl | h
        · exact .inl hlt
        · exact hb b h)
      refine ⟨D, ?_, h2, h3.trans ?_⟩
      · refine v_bi (a := true) (v_T (by omega) (v_cT (v_ix (by omega) g1 (v_w (by omega) (v_ix (by omega) g0 (v_bi (a := -1) (v_ix (by omega) ra (v_bi rfl (v_ix (by omega) rx (v_bi rfl (v_bi (cmp_lt hlt) rfl))))) (v_T (by decide) rfl))))))) (v_cT ?_)
        refine v_w (by omega) (v_w (by omega) (v_ix (by omega) g0 (v_ix (by omega) g1 (v_bnd ?_))))
        rw [show ((q + 1 : Nat) : Int).toNat = A'.length + 1 by omega, show (((q + 1 : Nat) : Int) - 1).toNat = A'.length by omega, ofL_set]
        have gx : (ofL ((A' ++ a :: x :: (B ++ C)).set (A'.length + 1) a))[(((q + 1 : Nat) : Int) - 1).toNat]? = some (a : Int) := by
          rw [show (((q + 1 : Nat) : Int) - 1).toNat = A'.length by omega]; apply ofL_at; simp [List.getElem?_set]
        refine v_ix (by omega) gx (v_bnd (v_w (by omega) ?_))
        rw [ofL_set, swap_mid, show ((q + 1 : Nat) : Int) - 1 = (q : Int) by omega]
        exact h1
      · have : (A' ++ x :: a :: B).Perm (A' ++ a :: x :: B) := List.Perm.append_left _ (List.Perm.swap ..)
        simpa using this
    · obtain ⟨c, hc1, hc2⟩ := cmp_ge hlt
      refine ⟨A' ++ a :: x :: B, ?_, ?_, by simp⟩
      · refine v_bi (a := false) (v_T (by omega) (v_cT (v_ix (by omega) g1 (v_w (by omega) (v_ix (by omega) g0 (v_bi (a := c) (v_ix (by omega) ra (v_bi rfl (v_ix (by omega) rx (v_bi rfl (v_bi hc1 rfl))))) (v_F (by omega) rfl))))))) (v_cF ?_)
        simp
      · have hbx : bef r a x := by unfold bef; omega
        have hpa : (A' ++ (a :: B)).Pairwise (bef r) := by simpa using hp
        rw [List.pairwise_append] at hpa ⊢
        obtain ⟨p1, p2, p3⟩ := hpa
        rw [List.pairwise_cons] at p2
        refine ⟨p1, List.pairwise_cons.2 ⟨fun b hb' => ?_, List.pairwise_cons.2 ⟨hb, p2.2⟩⟩, fun b hb' c hc => ?_⟩
        · rcases List.mem_cons.1 hb' with rfl | h
          · exact hbx
          · exact p2.1 b h
        · rcases List.mem_cons.1 hc with rfl | hc
          · exact p3 b hb' _ (by simp)
          · rcases List.mem_cons.1 hc with rfl | hc
            · exact bef_tr (p3 b hb' a (by simp)) hbx
            · exact p3 b hb' c (by simp [hc])
theorem mem_r {P : List Nat} {i : Nat} (h : P.Perm (List.range i)) : ∀ a ∈ P, a < i := fun a ha => by have := (h.mem_iff (a := a)).1 ha; simpa using this
theorem srt (r : List Int) (y : List Int) (hr : r.length ≤ 1000) (hy : y.length = r.length) : ∀ (d i n : Nat) (P : List Nat), i + d = r.length → d + r.length < n → P.length = i → P.Perm (List.range i) → P.Pairwise (bef r) →
    ∃ s, d_parts_Split_L5 r y n (i : Int) (ofL (P ++ List.range' i d)) = some (ofL s) ∧ s.Perm (List.range r.length) ∧ s.Pairwise (bef r)
  | _, _, 0, _, _, hn, _, _, _ => by omega
  | 0, i, n + 1, P, hi, hn, hl, hp, hw => by
    obtain rfl : i = r.length := by omega
    refine ⟨P, ?_, hp, hw⟩
    rw [d_parts_Split_L5]
    refine v_F (by omega) (v_cF ?_)
    simp
  | d + 1, i, n + 1, P, hi, hn, hl, hp, hw => by
    have ha := mem_r hp
    obtain ⟨D, h1, h2, h3⟩ := ins r i P [] (List.range' (i + 1) d) i n hl (by omega) (by omega) (by omega) ha (by simpa using hw) (by intro b hb; cases hb)
    have h4 : D.Perm (List.range (i + 1)) := by
      refine h3.trans ?_
      rw [List.range_succ]
      exact List.Perm.append_right _ hp
    obtain ⟨s, g1, g2, g3⟩ := srt r y hr hy d (i + 1) n D (by omega) (by omega) (by rw [h4.length_eq, List.length_range]) h4 h2
    refine ⟨s, ?_, g2, g3⟩
    rw [d_parts_Split_L5, List.range'_succ]
    refine v_T (by omega) (v_cT (v_bi (a := ofL (D ++ List.range' (i + 1) d)) (v_bi (by simpa using h1) rfl) (v_w (by omega) ?_)))
    exact g1
theorem fill (r : List Int) (hr : r.length ≤ 1000) : ∀ (d i n : Nat), i + d = r.length → d < n → d_parts_Split_L3 r n (i : Int) (ofL (List.range i) ++ List.replicate d 0) = some (ofL (List.range r.length))
  | _, _, 0, _, hn => by omega
  | 0, i, n + 1, hi, hn => by
    obtain rfl : i = r.length := by omega
    rw [d_parts_Split_L3]
    refine v_F (by omega) (v_cF ?_)
    simp
  | d + 1, i, n + 1, hi, hn => by
    have hl : (ofL (List.range i)).length = i := by rw [ofL_len, List.length_range]
    have hx : (ofL (List.range i) ++ List.replicate (d + 1) 0)[((i : Nat) : Int).toNat]? = some (0 : Int) := by
      rw [Int.toNat_natCast, List.getElem?_append_right (by omega), hl, Nat.sub_self]; rfl
    rw [d_parts_Split_L3]
    refine v_T (by omega) (v_cT (v_ix (by omega) hx (v_bnd (v_w (by omega) ?_))))
    have e : (ofL (List.range i) ++ List.replicate (d + 1) 0).set (Int.toNat (i : Int)) (i : Int) = ofL (List.range (i + 1)) ++ List.replicate d 0 := by
      rw [Int.toNat_natCast, List.set_append_right _ _ (by omega), hl, Nat.sub_self, List.replicate_succ, List.set_cons_zero, List.range_succ]
      simp [ofL]
    rw [e]
    exact fill r hr d (i + 1) n (by omega) (by omega)
def inc (o : List Int) (s : List Nat) : List Int := s.foldl (fun o i => o.set i (at0 o i + 1)) o
theorem inc_len (s : List Nat) : ∀ o : List Int, (inc o s).length = o.length := by
  induction s with
  | nil => intro o; rfl
  | cons i s ih => intro o; show (inc (o.set i (at0 o i + 1)) s).length = _; rw [ih, List.length_set]
def Sml (o : List Int) (b : Int) : Prop := ∀ i, 0 ≤ at0 o i ∧ at0 o i ≤ b
theorem at0_set {o : List Int} {i j : Nat} {v : Int} : at0 (o.set i v) j = if i = j ∧ i < o.length then v else at0 o j := by
  unfold at0
  simp only [List.getD_eq_getElem?_getD, List.getElem?_set]
  by_cases h : i = j
  · subst h
    by_cases h2 : i < o.length
    · simp [h2]
    · simp [h2]
  · simp [h]
theorem incs (s : List Nat) (hs : ∀ i ∈ s, i < 1000000) (m : Nat) (hm : m ≤ s.length) (hl : s.length ≤ 1000) : ∀ (d t n : Nat) (o : List Int) (b : Int), t + d = m → d < n → (∀ i ∈ s, i < o.length) → Sml o b → b + d ≤ 1000000000000 →
    d_parts_Split_L8 (ofL s) (m : Int) n (t : Int) o = some (inc o ((s.drop t).take d))
  | _, _, 0, _, _, _, hn, _, _, _ => by omega
  | 0, t, n + 1, o, b, ht, hn, ho, hb, hbd => by
    rw [d_parts_Split_L8]
    refine v_F (by omega) (v_cF ?_)
    simp [inc]
  | d + 1, t, n + 1, o, b, ht, hn, ho, hb, hbd => by
    have htl : t < s.length := by omega
    have hst : s[t] < o.length := ho _ (List.getElem_mem htl)
    have hx : (ofL s)[((((0 + 0 : Nat) : Int)) + (t : Int)).toNat]? = some ((s[t] : Nat) : Int) := by
      rw [show ((((0 + 0 : Nat) : Int)) + (t : Int)).toNat = t by omega]; exact ofL_at (by simp [htl])
    have hy : o[((s[t] : Nat) : Int).toNat]? = some (at0 o s[t]) := by rw [Int.toNat_natCast]; exact at0_get hst
    have hbi := hb s[t]
    rw [List.drop_eq_getElem_cons htl, List.take_succ_cons]
    have ih := incs s hs m hm hl d (t + 1) n (o.set s[t] (at0 o s[t] + 1)) (b + 1) (by omega) (by omega) (fun i hi => by rw [List.length_set]; exact ho i hi) (fun i => by
      have := hb i
      rw [at0_set]; split <;> omega) (by omega)
    rw [d_parts_Split_L8]
    refine v_T (by omega) (v_cT (v_as (by omega) (v_ix (by omega) hx (v_ix (by omega) hy (v_w (by omega) (v_bnd (v_w (by omega) ?_)))))))
    rw [Int.toNat_natCast]
    exact ih
def Top (r : List Int) (b : Nat) : Prop := b < r.length ∧ ∀ j, j < r.length → at0 r j ≤ at0 r b ∧ (j < b → at0 r j < at0 r b)
theorem Top.uniq {r : List Int} {a b : Nat} (h : Top r a) (g : Top r b) : a = b := by
  have h1 := h.2 b g.1; have h2 := g.2 a h.1
  rcases Nat.lt_trichotomy a b with h3 | h3 | h3
  · have := h2.2 h3; omega
  · exact h3
  · have := h1.2 h3; omega
theorem top (r : List Int) (hr : r.length ≤ 1000) : ∀ (d i n b : Nat), i + d = r.length → d < n → b < i → (∀ j, j < i → at0 r j ≤ at0 r b ∧ (j < b → at0 r j < at0 r b)) → ∃ c : Nat, d_law23_CloseWaits_L4 r n (b : Int) (i : Int) = some (c : Int) ∧ Top r c
  | _, _, 0, _, _, hn, _, _ => by omega
  | 0, i, n + 1, b, hi, hn, hb, h => by
    obtain rfl : i = r.length := by omega
    refine ⟨b, ?_, hb, h⟩
    rw [d_law23_CloseWaits_L4]
    exact v_F (by omega) (v_cF rfl)
  | d + 1, i, n + 1, b, hi, hn, hb, h => by
    have hx : r[((i : Nat) : Int).toNat]? = some (at0 r i) := by rw [Int.toNat_natCast]; exact at0_get (by omega)
    have hy : r[((b : Nat) : Int).toNat]? = some (at0 r b) := by rw [Int.toNat_natCast]; exact at0_get (by omega)
    by_cases hlt : at0 r i > at0 r b
    · obtain ⟨c, g1, g2⟩ := top r hr d (i + 1) n i (by omega) (by omega) (by omega) (fun j hj => by
        by_cases hji : j = i
        · subst hji; exact ⟨Int.le_refl _, fun h => absurd h (Nat.lt_irrefl _)⟩
        · have := h j (by omega); exact ⟨by omega, fun _ => by omega⟩)
      refine ⟨c, ?_, g2⟩
      rw [d_law23_CloseWaits_L4]
      exact v_T (by omega) (v_cT (v_bi (a := (i : Int)) (v_ix (by omega) hx (v_ix (by omega) hy (v_T hlt (v_cT rfl)))) (v_w (by omega) g1)))
    · obtain ⟨c, g1, g2⟩ := top r hr d (i + 1) n b (by omega) (by omega) (by omega) (fun j hj => by
        by_cases hji : j = i
        · subst hji; exact ⟨by omega, fun h => by omega⟩
        · exact h j (by omega))
      refine ⟨c, ?_, g2⟩
      rw [d_law23_CloseWaits_L4]
      exact v_T (by omega) (v_cT (v_bi (a := (b : Int)) (v_ix (by omega) hx (v_ix (by omega) hy (v_F hlt (v_cF rfl)))) (v_w (by omega) g1)))
def mark (r : List Int) (s : List Nat) : List Int := s.foldl (fun r i => r.set i (-1)) r
theorem mark_at (s : List Nat) : ∀ (r : List Int) (j : Nat), (∀ i ∈ s, i < r.length) → at0 (mark r s) j = if j ∈ s then -1 else at0 r j := by
  induction s with
  | nil => intro r j _; simp [mark]
  | cons i s ih =>
    intro r j h
    show at0 (mark (r.set i (-1)) s) j = _
    rw [ih _ _ (fun x hx => by rw [List.length_set]; exact h x (List.mem_cons_of_mem _ hx)), at0_set]
    have hi := h i (List.mem_cons_self ..)
    by_cases h1 : j ∈ s
    · simp [h1]
    · by_cases h2 : i = j
      · subst h2; simp [hi]
      · simp [h1, h2, Ne.symm h2]
theorem mark_len (s : List Nat) : ∀ r : List Int, (mark r s).length = r.length := by
  induction s with
  | nil => intro r; rfl
  | cons i s ih => intro r; show (mark (r.set i (-1)) s).length = _; rw [ih, List.length_set]
theorem fold_app {α β : Type} (f : α → β → α) (a : α) (l : List β) (x : β) : (l ++ [x]).foldl f a = f (l.foldl f a) x := by simp
theorem picks (r : List Int) (hr : r.length ≤ 1000) (hnn : ∀ i, i < r.length → 0 ≤ at0 r i) (s : List Nat) (hp : s.Perm (List.range r.length)) (hw : s.Pairwise (bef r)) (m : Nat) (hm : m ≤ s.length) : ∀ (d t n : Nat) (o : List Int) (b : Int), t + d = m → d + r.length + 1 < n → o.length = r.length → Sml o b → b + d ≤ 1000000000000 →
    d_law23_CloseWaits_L3 n (d : Int) o (mark r (s.take t)) = some (inc o ((s.drop t).take d))
  | _, _, 0, _, _, _, hn, _, _, _ => by omega
  | 0, t, n + 1, o, b, ht, hn, ho, hb, hbd => by
    rw [d_law23_CloseWaits_L3]
    refine v_F (by omega) (v_cF ?_)
    simp [inc]
  | d + 1, t, n + 1, o, b, ht, hn, ho, hb, hbd => by
    have hsl : s.length = r.length := by rw [hp.length_eq, List.length_range]
    have htl : t < s.length := by omega
    have hmem := mem_r hp
    have hst : s[t] < r.length := hmem _ (List.getElem_mem htl)
    have hml : (mark r (s.take t)).length = r.length := mark_len _ _
    have hmt : ∀ i ∈ s.take t, i < r.length := fun i hi => hmem i (List.mem_of_mem_take hi)
    have hnd : s.Nodup := (hp.nodup_iff).2 List.nodup_range
    have hns : s[t] ∉ s.take t := by
      intro h
      obtain ⟨j, hj, e⟩ := List.getElem_of_mem h
      rw [List.length_take] at hj
      rw [List.getElem_take] at e
      exact List.pairwise_iff_getElem.1 hnd j t (by omega) htl (by omega) e
    have hT : Top (mark r (s.take t)) s[t] := by
      refine ⟨by rw [hml]; exact hst, fun j hj => ?_⟩
      rw [hml] at hj
      rw [mark_at _ _ _ hmt, mark_at _ _ _ hmt, if_neg hns]
      have h0 := hnn _ hst
      by_cases hjm : j ∈ s.take t
      · rw [if_pos hjm]; exact ⟨by omega, fun _ => by omega⟩
      · rw [if_neg hjm]
        have hjs : j ∈ s := (hp.mem_iff).2 (by simpa using hj)
        obtain ⟨q, hq, rfl⟩ := List.getElem_of_mem hjs
        have hqt : t ≤ q := by
          rcases Nat.lt_or_ge q t with h | h
          · exfalso; apply hjm; rw [List.mem_take_iff_getElem]; exact ⟨q, by omega, rfl⟩
          · exact h
        rcases Nat.lt_or_ge t q with h | h
        · have := List.pairwise_iff_getElem.1 hw t q htl hq h
          unfold bef at this
          exact ⟨by omega, fun _ => by omega⟩
        · obtain rfl : q = t := by omega
          exact ⟨Int.le_refl _, fun h => absurd h (Nat.lt_irrefl _)⟩
    have hpos : 0 < r.length := by omega
    obtain ⟨c, g1, g2⟩ := top (mark r (s.take t)) (by omega) (r.length - 1) 1 n 0 (by omega) (by omega) (by omega) (fun j hj => by
      obtain rfl : j = 0 := by omega
      exact ⟨Int.le_refl _, fun h => absurd h (Nat.lt_irrefl _)⟩)
    obtain rfl := g2.uniq hT
    have hbi := hb s[t]
    have hy : o[((s[t] : Nat) : Int).toNat]? = some (at0 o s[t]) := by rw [Int.toNat_natCast]; exact at0_get (by omega)
    have hz : (mark r (s.take t))[((s[t] : Nat) : Int).toNat]? = some (at0 (mark r (s.take t)) s[t]) := by rw [Int.toNat_natCast]; exact at0_get (by omega)
    have ih := picks r hr hnn s hp hw m hm d (t + 1) n (o.set s[t] (at0 o s[t] + 1)) (b + 1) (by omega) (by omega) (by rw [List.length_set]; exact ho) (fun i => by
      have := hb i
      rw [at0_set]; split <;> omega) (by omega)
    have em : mark r (s.take (t + 1)) = (mark r (s.take t)).set s[t] (-1) := by
      rw [← List.take_append_getElem htl]; unfold mark; rw [fold_app]
    rw [em] at ih
    rw [List.drop_eq_getElem_cons htl, List.take_succ_cons, d_law23_CloseWaits_L3]
    refine v_T (by omega) (v_cT (v_bi (a := (o.set s[t] (at0 o s[t] + 1), (mark r (s.take t)).set s[t] (-1))) (v_bi g1 (v_ix (by omega) hy (v_w (by omega) (v_bnd (v_ix (by omega) hz (v_bnd rfl)))))) ?_))
    refine v_p2 (v_w (by omega) ?_)
    rw [show (((d + 1 : Nat) : Int)) - 1 = (d : Int) by omega]
    exact ih
end Go.Pv
