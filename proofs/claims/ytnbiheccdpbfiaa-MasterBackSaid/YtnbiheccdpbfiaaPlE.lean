/- Plain laws: a master read. -/
import Derived.Test.YtnbiheccdpbfiaaPlD
set_option linter.unusedSimpArgs false
set_option linter.unusedVariables false
namespace Go.Pv
def rows : Nat → RS → List (List Int) → RS × List (List Int)
  | 0, s, a => (s, a)
  | k + 1, s, a => rows k (lstR s 5) (a ++ [lstV s 5])
theorem lstV_5 (s : RS) (w : Nat) : (lstV s (w : Int)).length ≤ w := by
  unfold lstV; split
  · exact Nat.zero_le _
  · rw [nums_len]; have := cntV_le s (w : Int) (by omega); omega
theorem rows_ok : ∀ (k : Nat) (s : RS) (a : List (List Int)), okS s → (∀ r ∈ a, r.length ≤ 5) → okS (rows k s a).1 ∧ (rows k s a).1.1.length ≤ s.1.length ∧ (rows k s a).2.length = a.length + k ∧ ∀ r ∈ (rows k s a).2, r.length ≤ 5
  | 0, s, a, h, ha => ⟨h, Nat.le_refl _, rfl, ha⟩
  | k + 1, s, a, h, ha => by
    obtain ⟨h1, h2, h3, h4⟩ := rows_ok k (lstR s 5) (a ++ [lstV s 5]) (okS_lst h 5) (by
      intro r hr; rcases List.mem_append.1 hr with hr | hr
      · exact ha r hr
      · rw [List.mem_singleton.1 hr]; exact lstV_5 s 5)
    refine ⟨h1, Nat.le_trans h2 (lstR_len s 5), ?_, h4⟩
    have h3' : (rows (k + 1) s a).2.length = _ := h3
    rw [h3', List.length_append]; simp only [List.length_singleton]; omega
theorem rl0 (x7 : Nat) (hx : x7 ≤ 4) : ∀ (d k n : Nat) (s : RS) (a : List (List Int)), k + d = x7 → d < n → okS s → s.1.length ≤ 1000 → a.length = k →
    d_master_Read_L0 (x7 : Int) n (k : Int) s.1 s.2 a = some ((rows d s a).1.1, (rows d s a).1.2, (rows d s a).2)
  | 0, k, n, s, a, hk, hn, _, _, _ => by
    have : k = x7 := by omega
    subst this
    obtain ⟨m, rfl⟩ : ∃ m, n = m + 1 := ⟨n - 1, by omega⟩
    simp only [d_master_Read_L0, bnd_v, lt_f, cnd_f]; rfl
  | d + 1, k, n, (t, b), a, hk, hn, hs, hl, ha => by
    obtain ⟨m, rfl⟩ : ∃ m, n = m + 1 := ⟨n - 1, by omega⟩
    simp only [d_master_Read_L0, bnd_v, lt_n (show k < x7 by omega), cnd_t, nx (show k ≤ 68719476736 by omega)]
    have hlen : (a ++ [lstV (t, b) 5]).length = k + 1 := by rw [List.length_append, ha]; rfl
    rw [asrt_t (show t.length ≤ 1099511627776 from Nat.le_trans hl (by decide)), asrt_t (show b = true → t = [] from hs), asrt_t (by omega : (a ++ [lstV (t, b) 5]).length ≤ 68719476736)]
    exact rl0 x7 hx d (k + 1) m (lstR (t, b) 5) (a ++ [lstV (t, b) 5]) (by omega) (by omega) (okS_lst hs 5) (Nat.le_trans (lstR_len (t, b) 5) hl) hlen
theorem rl1 (x7 : Nat) (hx : x7 ≤ 4) : ∀ (d k n : Nat) (s : RS) (a : List (List Int)), k + d = x7 → d < n → okS s → s.1.length ≤ 1000 → a.length = k →
    d_master_Read_L1 (x7 : Int) n (k : Int) s.1 s.2 a = some ((rows d s a).1.1, (rows d s a).1.2, (rows d s a).2)
  | 0, k, n, s, a, hk, hn, _, _, _ => by
    have : k = x7 := by omega
    subst this
    obtain ⟨m, rfl⟩ : ∃ m, n = m + 1 := ⟨n - 1, by omega⟩
    simp only [d_master_Read_L1, bnd_v, lt_f, cnd_f]; rfl
  | d + 1, k, n, (t, b), a, hk, hn, hs, hl, ha => by
    obtain ⟨m, rfl⟩ : ∃ m, n = m + 1 := ⟨n - 1, by omega⟩
    simp only [d_master_Read_L1, bnd_v, lt_n (show k < x7 by omega), cnd_t, nx (show k ≤ 68719476736 by omega)]
    have hlen : (a ++ [lstV (t, b) 5]).length = k + 1 := by rw [List.length_append, ha]; rfl
    rw [asrt_t (show t.length ≤ 1099511627776 from Nat.le_trans hl (by decide)), asrt_t (show b = true → t = [] from hs), asrt_t (by omega : (a ++ [lstV (t, b) 5]).length ≤ 68719476736)]
    exact rl1 x7 hx d (k + 1) m (lstR (t, b) 5) (a ++ [lstV (t, b) 5]) (by omega) (by omega) (okS_lst hs 5) (Nat.le_trans (lstR_len (t, b) 5) hl) hlen
theorem rrl0 (x7 : Nat) (hx : x7 ≤ 4) : ∀ (d k n : Nat) (s : RS) (a : List (List Int)), k + d = x7 → d < n → okS s → s.1.length ≤ 1000 → a.length = k →
    d_ref04_Read_L0 (x7 : Int) n (k : Int) s.1 s.2 a = some ((rows d s a).1.1, (rows d s a).1.2, (rows d s a).2)
  | 0, k, n, s, a, hk, hn, _, _, _ => by
    have : k = x7 := by omega
    subst this
    obtain ⟨m, rfl⟩ : ∃ m, n = m + 1 := ⟨n - 1, by omega⟩
    simp only [d_ref04_Read_L0, bnd_v, lt_f, cnd_f]; rfl
  | d + 1, k, n, (t, b), a, hk, hn, hs, hl, ha => by
    obtain ⟨m, rfl⟩ : ∃ m, n = m + 1 := ⟨n - 1, by omega⟩
    simp only [d_ref04_Read_L0, bnd_v, lt_n (show k < x7 by omega), cnd_t, nx (show k ≤ 68719476736 by omega)]
    have hlen : (a ++ [lstV (t, b) 5]).length = k + 1 := by rw [List.length_append, ha]; rfl
    rw [asrt_t (show t.length ≤ 1099511627776 from Nat.le_trans hl (by decide)), asrt_t (show b = true → t = [] from hs), asrt_t (by omega : (a ++ [lstV (t, b) 5]).length ≤ 68719476736)]
    exact rrl0 x7 hx d (k + 1) m (lstR (t, b) 5) (a ++ [lstV (t, b) 5]) (by omega) (by omega) (okS_lst hs 5) (Nat.le_trans (lstR_len (t, b) 5) hl) hlen
theorem rrl1 (x7 : Nat) (hx : x7 ≤ 4) : ∀ (d k n : Nat) (s : RS) (a : List (List Int)), k + d = x7 → d < n → okS s → s.1.length ≤ 1000 → a.length = k →
    d_ref04_Read_L1 (x7 : Int) n (k : Int) s.1 s.2 a = some ((rows d s a).1.1, (rows d s a).1.2, (rows d s a).2)
  | 0, k, n, s, a, hk, hn, _, _, _ => by
    have : k = x7 := by omega
    subst this
    obtain ⟨m, rfl⟩ : ∃ m, n = m + 1 := ⟨n - 1, by omega⟩
    simp only [d_ref04_Read_L1, bnd_v, lt_f, cnd_f]; rfl
  | d + 1, k, n, (t, b), a, hk, hn, hs, hl, ha => by
    obtain ⟨m, rfl⟩ : ∃ m, n = m + 1 := ⟨n - 1, by omega⟩
    simp only [d_ref04_Read_L1, bnd_v, lt_n (show k < x7 by omega), cnd_t, nx (show k ≤ 68719476736 by omega)]
    have hlen : (a ++ [lstV (t, b) 5]).length = k + 1 := by rw [List.length_append, ha]; rfl
    rw [asrt_t (show t.length ≤ 1099511627776 from Nat.le_trans hl (by decide)), asrt_t (show b = true → t = [] from hs), asrt_t (by omega : (a ++ [lstV (t, b) 5]).length ≤ 68719476736)]
    exact rrl1 x7 hx d (k + 1) m (lstR (t, b) 5) (a ++ [lstV (t, b) 5]) (by omega) (by omega) (okS_lst hs 5) (Nat.le_trans (lstR_len (t, b) 5) hl) hlen
/-- What is read: the number of entities, the periods, what else. -/
def readT (x : Nat) (p : Int) (s : RS) : RS × GMaster :=
  (( rows x (rows x (lstR s 5) []).1 []).1, ⟨x, p, lstV s 5, (rows x (lstR s 5) []).2, (rows x (rows x (lstR s 5) []).1 []).2⟩)
def zeroM : GMaster := ⟨0, 0, [], [], []⟩
def finT (t : RS × GMaster) : GMaster × Int := cond (t.1.2 || (!decide (t.1.1 = []) || !goodM t.2)) (zeroM, 3) (t.2, 0)
def readM (s : List UInt8) : GMaster × Int := finT (readT (cntV (s, false) 4).toNat (cntV (cntR (s, false) 4) 12) (cntR (cntR (s, false) 4) 12))
theorem readT_few {x : Nat} (hx : x ≤ 4) (p : Int) {s : RS} (hs : okS s) : Few (readT x p s).2 := by
  have h1 := okS_lst hs 5
  have a := rows_ok x (lstR s 5) [] h1 (by intro r hr; cases hr)
  have b := rows_ok x _ [] a.1 (by intro r hr; cases hr)
  refine ⟨?_, ?_, ?_, ?_, ?_⟩
  · have := lstV_5 s 5; show (lstV s 5).length ≤ 20; exact Nat.le_trans this (by decide)
  · show (rows x (lstR s 5) []).2.length ≤ 10; rw [a.2.2.1]; simp only [List.length_nil]; omega
  · intro r hr; have := a.2.2.2 r hr; omega
  · show (rows x (rows x (lstR s 5) []).1 []).2.length ≤ 10; rw [b.2.2.1]; simp only [List.length_nil]; omega
  · intro r hr; have := b.2.2.2 r hr; omega
theorem len_d {α : Type} [DecidableEq α] (l : List α) : decide ((l.length : Int) > 0) = !decide (l = []) := by
  cases l with
  | nil => rfl
  | cons x l => rw [decide_eq_true (by simp only [List.length_cons]; omega)]; simp
theorem read_v {s : List UInt8} (hs : s.length ≤ 1000) (n : Nat) (hn : 100 ≤ n) : d_master_Read n s = some (readM s) := by
  have o0 : okS ((s, false) : RS) := by intro h; cases h
  have o1 := okS_cnt o0 4
  have o2 := okS_cnt o1 12
  have o3 := okS_lst o2 5
  have l1 := cntR_len (s, false) 4
  have l2 := cntR_len (cntR (s, false) 4) 12
  have l3 := lstR_len (cntR (cntR (s, false) 4) 12) 5
  have hs' : ((s, false) : RS).1.length ≤ 1000 := hs
  have x0 := cntV_nonneg (s, false) 4
  have x1 := cntV_le (s, false) 4 (by decide)
  simp only [d_master_Read, bnd_v, ob_s]
  rw [asrt_t (by omega), asrt_t (by omega), asrt_t (by omega), asrt_t (show (cntR (cntR (s, false) 4) 12).2 = true → (cntR (cntR (s, false) 4) 12).1 = [] from o2)]
  unfold readM
  have hx : cntV (s, false) 4 = ((cntV (s, false) 4).toNat : Int) := by omega
  rw [hx]
  generalize hX : (cntV (s, false) 4).toNat = X at *
  generalize hP : cntV (cntR (s, false) 4) 12 = P
  generalize hS : cntR (cntR (s, false) 4) 12 = S at *
  have a := rows_ok X (lstR S 5) [] o3 (by intro r hr; cases hr)
  have b := rows_ok X _ [] a.1 (by intro r hr; cases hr)
  rw [show d_master_Read_L0 (X : Int) n 0 (lstR S 5).1 (lstR S 5).2 [] = _ from rl0 X (by omega) X 0 n (lstR S 5) [] (by omega) (by omega) o3 (by omega) rfl]
  simp only [ob_s, p2_v]
  rw [show d_master_Read_L1 (X : Int) n 0 (rows X (lstR S 5) []).1.1 (rows X (lstR S 5) []).1.2 [] = _ from rl1 X (by omega) X 0 n (rows X (lstR S 5) []).1 [] (by omega) (by omega) a.1 (by omega) rfl]
  simp only [ob_s, p2_v]
  have hc : d_master_Check n ⟨(X : Int), P, lstV S 5, (rows X (lstR S 5) []).2, (rows X (rows X (lstR S 5) []).1 []).2⟩ = some (goodM ⟨(X : Int), P, lstV S 5, (rows X (lstR S 5) []).2, (rows X (rows X (lstR S 5) []).1 []).2⟩) := check_v (readT_few (x := X) (by omega) P o2) n (by omega)
  simp only [hc, ob_s, len_d, Int.toNat_natCast]
  show _ = some (finT (readT X P S))
  unfold finT readT
  simp only []
  cases (rows X (rows X (lstR S 5) []).1 []).1.2; case true => rfl
  cases decide ((rows X (rows X (lstR S 5) []).1 []).1.1 = []); case false => rfl
  cases goodM ⟨X, P, lstV S 5, (rows X (lstR S 5) []).2, (rows X (rows X (lstR S 5) []).1 []).2⟩ <;> rfl
theorem lst_bad {s : RS} (h : okS s) (hb : s.2 = true) : (lstR s 5).2 = true := by
  have h1 : (cntR s 5).2 = true := by
    unfold cntR; split
    · rfl
    · rw [(numR_stays h hb).1]
  have := nums_stays (okS_cnt h 5) (k := 0) h1 (cntV s 5).toNat (by omega)
  exact this
theorem rows_bad : ∀ (k : Nat) (s : RS) (a : List (List Int)), okS s → s.2 = true → (rows k s a).1.2 = true
  | 0, s, a, _, hb => hb
  | k + 1, s, a, h, hb => rows_bad k (lstR s 5) _ (okS_lst h 5) (lst_bad h hb)
def readR (s : List UInt8) : GMaster × Int := finT (readT (cntV (s, false) 4).toNat (numV (cntR (s, false) 4)) (numR (cntR (s, false) 4)))
theorem readR_v (s : List UInt8) : readR s = readM s := by
  unfold readR readM
  have o0 : okS ((s, false) : RS) := by intro h; cases h
  have o1 := okS_cnt o0 4
  generalize hS : cntR (s, false) 4 = S at *
  generalize (cntV (s, false) 4).toNat = X at *
  by_cases h : numV S < 0 ∨ 12 < numV S
  · have e1 : cntR S 12 = ([], true) := if_pos h
    have e2 : finT (readT X (cntV S 12) (cntR S 12)) = (zeroM, 3) := by
      rw [e1]; unfold finT readT
      have o : okS (([], true) : RS) := fun _ => rfl
      have h1 := lst_bad o rfl
      have o1 := okS_lst o 5
      have h2 := rows_bad X _ [] o1 h1
      have o2 := (rows_ok X (lstR ([], true) 5) [] o1 (by intro r hr; cases hr)).1
      have h3 := rows_bad X _ [] o2 h2
      simp only [h3, Bool.true_or, cnd_t]
    have e3 : finT (readT X (numV S) (numR S)) = (zeroM, 3) := by
      unfold finT
      have hg : goodM (readT X (numV S) (numR S)).2 = false := by
        cases hg : goodM (readT X (numV S) (numR S)).2 with
        | false => rfl
        | true =>
          have h2 := (goodM_e hg).2.1
          have : (readT X (numV S) (numR S)).2.Periods = numV S := rfl
          omega
      rw [hg, Bool.not_false, Bool.or_true, Bool.or_true]; rfl
    rw [e2, e3]
  · have e1 : cntR S 12 = numR S := if_neg h
    have e2 : cntV S 12 = numV S := if_neg h
    rw [e1, e2]
theorem rread_v {s : List UInt8} (hs : s.length ≤ 1000) (n : Nat) (hn : 100 ≤ n) : d_ref04_Read n s = some (readM s) := by
  rw [← readR_v]
  have o0 : okS ((s, false) : RS) := by intro h; cases h
  have o1 := okS_cnt o0 4
  have o2 := okS_num o1
  have o3 := okS_lst o2 5
  have l1 := cntR_len (s, false) 4
  have l2 := numR_len (cntR (s, false) 4)
  have l3 := lstR_len (numR (cntR (s, false) 4)) 5
  have hs' : ((s, false) : RS).1.length ≤ 1000 := hs
  have x0 := cntV_nonneg (s, false) 4
  have x1 := cntV_le (s, false) 4 (by decide)
  simp only [d_ref04_Read, bnd_v, ob_s]
  rw [asrt_t (by omega), asrt_t (show false = true → s = [] from o0), asrt_t (by omega), asrt_t (by omega), asrt_t (show (numR (cntR (s, false) 4)).2 = true → (numR (cntR (s, false) 4)).1 = [] from o2)]
  unfold readR
  have hx : cntV (s, false) 4 = ((cntV (s, false) 4).toNat : Int) := by omega
  rw [hx]
  generalize hX : (cntV (s, false) 4).toNat = X at *
  generalize hP : numV (cntR (s, false) 4) = P
  generalize hS : numR (cntR (s, false) 4) = S at *
  have a := rows_ok X (lstR S 5) [] o3 (by intro r hr; cases hr)
  have b := rows_ok X _ [] a.1 (by intro r hr; cases hr)
  rw [show d_ref04_Read_L0 (X : Int) n 0 (lstR S 5).1 (lstR S 5).2 [] = _ from rrl0 X (by omega) X 0 n (lstR S 5) [] (by omega) (by omega) o3 (by omega) rfl]
  simp only [ob_s, p2_v]
  rw [show d_ref04_Read_L1 (X : Int) n 0 (rows X (lstR S 5) []).1.1 (rows X (lstR S 5) []).1.2 [] = _ from rrl1 X (by omega) X 0 n (rows X (lstR S 5) []).1 [] (by omega) (by omega) a.1 (by omega) rfl]
  simp only [ob_s, p2_v]
  have hc : d_ref04_Check n ⟨(X : Int), P, lstV S 5, (rows X (lstR S 5) []).2, (rows X (rows X (lstR S 5) []).1 []).2⟩ = some (goodM ⟨(X : Int), P, lstV S 5, (rows X (lstR S 5) []).2, (rows X (rows X (lstR S 5) []).1 []).2⟩) := rcheck_v (readT_few (x := X) (by omega) P o2) n (by omega)
  simp only [hc, ob_s, Int.toNat_natCast]
  show _ = some (finT (readT X P S))
  unfold finT readT
  simp only []
  cases (rows X (rows X (lstR S 5) []).1 []).1.2; case true => rfl
  cases decide ((rows X (rows X (lstR S 5) []).1 []).1.1 = []); case false => rfl
  cases goodM ⟨X, P, lstV S 5, (rows X (lstR S 5) []).2, (rows X (rows X (lstR S 5) []).1 []).2⟩ <;> rfl
theorem readM_few {s : List UInt8} : Few (readM s).1 := by
  have o0 : okS ((s, false) : RS) := by intro h; cases h
  have o1 := okS_cnt o0 4
  have o2 := okS_cnt o1 12
  have x1 := cntV_le (s, false) 4 (by decide)
  have := readT_few (x := (cntV (s, false) 4).toNat) (by omega) (cntV (cntR (s, false) 4) 12) o2
  unfold readM finT
  cases (readT (cntV (s, false) 4).toNat (cntV (cntR (s, false) 4) 12) (cntR (cntR (s, false) 4) 12)).1.2 || (!decide ((readT (cntV (s, false) 4).toNat (cntV (cntR (s, false) 4) 12) (cntR (cntR (s, false) 4) 12)).1.1 = []) || !goodM (readT (cntV (s, false) 4).toNat (cntV (cntR (s, false) 4) 12) (cntR (cntR (s, false) 4) 12)).2)
  · exact this
  · exact ⟨Nat.zero_le _, Nat.zero_le _, (by intro r hr; cases hr), Nat.zero_le _, (by intro r hr; cases hr)⟩
end Go.Pv
