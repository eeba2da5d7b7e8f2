/- MatchParts: plain law. -/
import Derived.Test.YtbcjcecegdfnpaaGreatS6
set_option linter.unusedSimpArgs false
set_option linter.unusedVariables false
namespace Go.Pv
open Go.Proofs
set_option maxRecDepth 100000
theorem ix_in {l : List Int} {j : Int} (h0 : 0 ≤ j) (h1 : j < (l.length : Int)) : ∃ y, ix l j = some y ∧ y ∈ l := by
  have h2 : j.toNat < l.length := by omega
  refine ⟨l[j.toNat], ?_, List.getElem_mem h2⟩
  unfold ix; rw [if_neg (by omega), List.getElem?_eq_getElem h2]
theorem md_part {m : Nat} {a k o : Int} (h0 : 0 ≤ a) (h1 : a < 2147483648) (h2 : 1 ≤ k) (h3 : k < o) (h4 : o ≤ 100000) : ∃ d r, d_money_MulDiv (m + 40) a k o = some (d, r, 0) ∧ 0 ≤ d ∧ d ≤ a := by
  have hk : 0 ≤ a * k := Int.mul_nonneg h0 (by omega)
  refine ⟨(a * k).tdiv o, (a * k).tmod o, muldiv_v (n := m + 28) ⟨h0, h1⟩ ⟨by omega, by omega⟩ ⟨by omega, by omega⟩, Int.tdiv_nonneg hk (by omega), ?_⟩
  rw [Int.tdiv_eq_ediv_of_nonneg hk]
  exact Int.ediv_le_of_le_mul (by omega) (Int.mul_le_mul_of_nonneg_left (by omega) h0)
theorem parts_loop {l : List Int} (hw : ∀ x ∈ l, -9223372036854775808 ≤ x ∧ x ≤ 9223372036854775807) {n v : Int} (h1 : 1 ≤ n) (h2 : n ≤ 100) (h3 : 0 ≤ v) (h4 : v < 10000) :
    ∀ (c m : Nat) (o a w j : Int), 0 ≤ o → o ≤ n → 0 ≤ a → a ≤ v → (o = 0 → a = 0) → 0 ≤ w → w ≤ 500 * j → 0 ≤ j → j ≤ 12 → (j = 12 → o = 0) → (12 - j).toNat ≤ c →
      ∃ w', 0 ≤ w' ∧ w' ≤ 6000 ∧ d_law18_MatchParts_L0 l (m + c + 41) o w j (F0 n v o a w) = some (.inl (0, w', F0 n v 0 0 w'))
  | c, m, o, a, w, j, g1, g2, g3, g4, g5, g6, g7, g8, g9, g10, g11 => by
    by_cases ho : o = 0
    · have ha := g5 ho
      subst ho ha
      exact ⟨w, g6, by omega, itE_r l (m + c) n v w j⟩
    · have hj : j < 12 := by
        rcases Int.lt_or_le j 12 with h | h
        · exact h
        · exact absurd (g10 (by omega)) ho
      cases c with
      | zero => omega
      | succ c =>
        have e : m + (c + 1) + 40 = m + c + 41 := by omega
        by_cases hl : j < (l.length : Int)
        · obtain ⟨y, hy, hm⟩ := ix_in g8 hl
          obtain ⟨x, e1, x0, x1⟩ := place_e (n := 500) (by decide) (hw y hm)
          by_cases hj' : j < 11
          · obtain ⟨q, e2, q0, q1⟩ := place_e (n := o) (by omega) (hw y hm)
            by_cases hq : q + 1 < o
            · obtain ⟨d, r, em, d0, d1⟩ := md_part (m := m + (c + 1)) (a := a) (k := q + 1) (o := o) g3 (by omega) (by omega) hq (by omega)
              rw [itA_r l (m + (c + 1)) n v o a w j y x (q + 1) d r h1 h2 h3 h4 hq g2 g3 g4 g6 (by omega) (by omega) x0 x1 em d0 d1 g8 hj' hl hy e1 (by rw [e2]; congr 1; omega), e]
              exact parts_loop hw h1 h2 h3 h4 c m _ _ _ _ (by omega) (by omega) (by omega) (by omega) (by omega) (by omega) (by omega) (by omega) (by omega) (by omega) (by omega)
            · rw [itB_r l (m + (c + 1)) n v o a w j y x h1 h2 h3 h4 (by omega) g2 g3 g4 g6 (by omega) x0 x1 g8 hj' hl hy e1 (by rw [e2]; congr 1; omega), e]
              exact parts_loop hw h1 h2 h3 h4 c m _ _ _ _ (by omega) (by omega) (by omega) (by omega) (by omega) (by omega) (by omega) (by omega) (by omega) (by omega) (by omega)
          · have hj2 : j = 11 := by omega
            subst hj2
            rw [itC_r l (m + (c + 1)) n v o a w y x h1 h2 h3 h4 (by omega) g2 g3 g4 g6 (by omega) x0 x1 hl hy e1, e]
            exact parts_loop hw h1 h2 h3 h4 c m _ _ _ _ (by omega) (by omega) (by omega) (by omega) (by omega) (by omega) (by omega) (by omega) (by omega) (by omega) (by omega)
        · rw [itD_r l (m + (c + 1)) n v o a w j h1 h2 h3 h4 (by omega) g2 g3 g4 g6 (by omega) g8 hj hl, e]
          exact parts_loop hw h1 h2 h3 h4 c m _ _ _ _ (by omega) (by omega) (by omega) (by omega) (by omega) (by omega) (by omega) (by omega) (by omega) (by omega) (by omega)
theorem aw18 : d_law18_awake 60 = some true := by decide +kernel
theorem matchParts_plain {a b : Int} {l : List Int} (ha : -9223372036854775808 ≤ a ∧ a ≤ 9223372036854775807) (hb : -9223372036854775808 ≤ b ∧ b ≤ 9223372036854775807) (hw : ∀ x ∈ l, -9223372036854775808 ≤ x ∧ x ≤ 9223372036854775807) : d_law18_MatchParts 60 a b l = some true := by
  obtain ⟨p, e1, p0, p1⟩ := place_e (n := 100) (by decide) ha
  obtain ⟨v, e2, v0, v1⟩ := place_e (n := 10000) (by decide) hb
  obtain ⟨w, w0, w1, hL⟩ := parts_loop hw (n := 1 + p) (v := v) (by omega) (by omega) v0 v1 12 7 (1 + p) v 0 0 (by omega) (by omega) (by omega) (by omega) (by omega) (by omega) (by omega) (by omega) (by omega) (by omega) (by decide)
  have hS := stocked18_r (1 + p) v (by omega) (by omega) v0 v1
  have hA := aw18
  have hL : d_law18_MatchParts_L0 l 60 (1 + p) 0 0 (F0 (1 + p) v (1 + p) v 0) = some (.inl (0, w, F0 (1 + p) v 0 0 w)) := hL
  unfold d_law18_MatchParts
  repeat (first
    | with_reducible exact v_end
    | ((with_reducible refine v_fin ?_); (exact rfl))
    | ((with_reducible refine v_w ?_ ?_); · first | omega | decide | (dsimp only; omega) | (simp; done) | (simp; omega))
    | ((with_reducible refine v_wu ?_ ?_); · first | omega | decide | (dsimp only; omega) | (simp; done) | (simp; omega))
    | ((with_reducible refine v_T ?_ ?_); · first | omega | decide | (dsimp only; omega) | (simp; done) | (simp; omega) | (exact of_decide_eq_true rfl))
    | ((with_reducible refine v_F ?_ ?_); · first | omega | decide | (dsimp only; omega) | (simp; done) | (simp; omega) | (exact of_decide_eq_true rfl))
    | with_reducible refine v_nT ?_
    | with_reducible refine v_nF ?_
    | with_reducible refine v_cT ?_
    | with_reducible refine v_cF ?_
    | ((with_reducible refine v_as ?_ ?_); · first | omega | decide | (dsimp only; omega) | (simp; done) | (simp; omega) | (exact of_decide_eq_true rfl))
    | ((with_reducible apply v_ix); (first | omega | decide | (simp; done) | (dsimp only [List.length_cons, List.length_nil]; omega)); (exact rfl))
    | with_reducible refine v_p2 ?_
    | with_reducible refine v_selb ?_
    | with_reducible refine v_sele ?_
    | with_reducible refine v_selrl ?_
    | with_reducible refine v_selrr ?_
    | ((with_reducible refine v_ifT ?_ ?_); · first | omega | decide | (dsimp only; omega))
    | ((with_reducible refine v_ifF ?_ ?_); · first | omega | decide | (dsimp only; omega))
    | with_reducible refine v_bi (e1) ?_
    | with_reducible refine v_bi (e2) ?_
    | with_reducible refine v_bi (hS) ?_
    | with_reducible refine v_bi (hL) ?_
    | with_reducible refine v_bi (hA) ?_
    | with_reducible refine v_brk ?_
    | with_reducible refine v_esc ?_
    | dsimp only [List.nil_append, List.cons_append]
    | with_reducible apply v_bi
    | with_reducible refine v_bnd ?_)
end Go.Pv
