/- SellBack: rounds. -/
import Derived.Test.YtbcjcecegdfnpaaGreatR5a
import Derived.Test.YtbcjcecegdfnpaaGreatS5z
set_option linter.unusedSimpArgs false
set_option linter.unusedVariables false
namespace Go.Pv
open Go.Proofs
set_option maxRecDepth 100000
set_option maxHeartbeats 2000000
theorem ix_in {l : List Int} {j : Int} (h0 : 0 ≤ j) (h1 : j < (l.length : Int)) : ∃ y, ix l j = some y ∧ y ∈ l := by
  have h2 : j.toNat < l.length := by omega
  refine ⟨l[j.toNat], ?_, List.getElem_mem h2⟩
  unfold ix; rw [if_neg (by omega), List.getElem?_eq_getElem h2]
theorem part_v {m : Nat} {a k o : Int} (h0 : 0 ≤ a) (h1 : a < 10000) (h2 : 1 ≤ k) (h3 : k ≤ o) (h4 : o ≤ 200) : ∃ d, d_money_Part (m + 40) a k o = some d ∧ 0 ≤ d ∧ d ≤ a ∧ (k = o → d = a) ∧ (a = 10 * o → d = 10 * k) := by
  have hI : d_money_in a = some true := by
    unfold d_money_in
    exact vauto
  by_cases hk : k = o
  · refine ⟨a, ?_, h0, Int.le_refl a, fun _ => rfl, fun h => by omega⟩
    subst hk
    unfold d_money_Part
    exact vauto
  · have hkn : 0 ≤ a * k := Int.mul_nonneg h0 (by omega)
    have hM := muldiv_v (n := m + 28) (a := a) (b := k) (c := o) ⟨h0, by omega⟩ ⟨by omega, by omega⟩ ⟨by omega, by omega⟩
    refine ⟨(a * k).tdiv o, ?_, Int.tdiv_nonneg hkn (by omega), ?_, fun h => absurd h hk, fun h => ?_⟩
    · unfold d_money_Part
      exact vauto
    · rw [Int.tdiv_eq_ediv_of_nonneg hkn]
      exact Int.ediv_le_of_le_mul (by omega) (Int.mul_le_mul_of_nonneg_left (by omega) h0)
    · rw [h, show 10 * o * k = 10 * k * o from by rw [Int.mul_assoc, Int.mul_comm o k, Int.mul_assoc]]
      exact Int.mul_tdiv_cancel _ (by omega)
def HBring (i : Int) (PI : Int → Int → Int → List GPool → Prop) : Prop :=
  ∀ (m : Nat) (j q w : Int) (P : List GPool) (k d : Int), PI j q w P → 0 ≤ j → j < 12 → 1 ≤ k → 0 ≤ q → q + k ≤ 200 → 0 ≤ d → 0 ≤ w → w + d < 10000 → (i = 3 → d = 10 * k ∧ w = 10 * q) →
    ∃ P', PI (j + 1) (q + k) (w + d) P' ∧ ∀ (B : List Int) (R : List GRoll) (S : List GSale) (rc : GReceipt), (R.length : Int) = 4 → d_stock_Bring (m + 40) (F1 P B R S rc) 0 i 0 ⟨k, d, 0⟩ = some (F1 P' B R S rc, d, 0, 0)
theorem back_loop {i n v : Int} {l : List Int} {rc : GReceipt} {PI : Int → Int → Int → List GPool → Prop} (hw : ∀ x ∈ l, -9223372036854775808 ≤ x ∧ x ≤ 9223372036854775807) (i0 : 0 ≤ i) (i1 : i < 4) (n0 : 1 ≤ n) (n1 : n ≤ 200) (v0 : 0 ≤ v) (v1 : v < 10000)
    (HP : ∀ j q w P, PI j q w P → (P.length : Int) = 8) (HB : HBring i PI) :
    ∀ (c m : Nat) (o a b j : Int) (P : List GPool) (R : List GRoll), PI j (n - o) (v - a) P → 0 ≤ o → o ≤ n → 0 ≤ a → a ≤ v → (o = 0 → a = 0) → (i = 3 → a = 10 * o ∧ v = 10 * n) → 0 ≤ b → b ≤ 3 * j → 0 ≤ j → j ≤ 12 → (j = 12 → o = 0) → (12 - j).toNat ≤ c →
      (R.length : Int) = 4 → ix R i = some ⟨0, v, 0, 0, v - a, v, 0, 0, 0, 0, 0⟩ →
      ∃ b' P' R' j', 0 ≤ b' ∧ b' ≤ 36 ∧ PI j' n v P' ∧ 0 ≤ j' ∧ j' ≤ 12 ∧ d_law16_SellBack_L0 l (m + c + 41) o b j (F1 P (F2 (v - a) (0 - v) (7 - b) (b - 7) a) R [⟨0, i, 0, n, n - o, a, 0, 1, false⟩] rc) =
        some (.inl (0, b', F1 P' (F2 v (0 - v) (7 - b') (b' - 7) 0) R' [⟨0, i, 0, n, n, 0, 0, 1, false⟩] rc))
  | c, m, o, a, b, j, P, R, hPI, o0, o1, a0, a1, oa, h3, b0, b1, j0, j1, j12, jc, hR, hr => by
    by_cases ho : o = 0
    · have ha := oa ho
      subst ho ha
      rw [Int.sub_zero, Int.sub_zero] at hPI
      rw [Int.sub_zero, Int.sub_zero]
      exact ⟨b, P, R, j, b0, by omega, hPI, j0, j1, itE_r l (m + c) P _ R _ rc b j⟩
    · have hj : j < 12 := by
        rcases Int.lt_or_le j 12 with h | h
        · exact h
        · exact absurd (j12 (by omega)) ho
      cases c with
      | zero => omega
      | succ c =>
        have step : ∀ k, 1 ≤ k → k ≤ o → (j = 11 → k = o) → (∀ d P' B' R', d_money_Part (m + (c + 1) + 40) a k o = some d → d_money_Part (m + (c + 1) + 40) 0 k o = some 0 → 0 ≤ d → d ≤ a → (k = o → d = a) →
              d_stock_Bring (m + (c + 1) + 40) (F1 P (F2 (v - a) (0 - v) (7 - b) (b - 7) a) R [⟨0, i, 0, n, n - o, a, 0, 1, false⟩] rc) 0 i 0 ⟨k, d, 0⟩ = some (F1 P' (F2 (v - a) (0 - v) (7 - b) (b - 7) a) R [⟨0, i, 0, n, n - o, a, 0, 1, false⟩] rc, d, 0, 0) →
              d_stock_Post (m + (c + 1) + 40) (F1 P' (F2 (v - a) (0 - v) (7 - b) (b - 7) a) R [⟨0, i, 0, n, n - o, a, 0, 1, false⟩] rc) 0 [⟨0, d⟩, ⟨6, 0⟩, ⟨5, 0 - d⟩, ⟨4, 3⟩, ⟨3, -3⟩] = some (F1 P' B' R [⟨0, i, 0, n, n - o, a, 0, 1, false⟩] rc, 0) →
              d_stock_Turn (F1 P' B' R [⟨0, i, 0, n, n - o, a, 0, 1, false⟩] rc) 0 i ⟨0, 0, 0, 0, d, 0, 0, 0, 0, 0, 0⟩ = some (F1 P' B' R' [⟨0, i, 0, n, n - o, a, 0, 1, false⟩] rc, 0) →
              d_law16_SellBack_L0 l (m + (c + 1) + 41) o b j (F1 P (F2 (v - a) (0 - v) (7 - b) (b - 7) a) R [⟨0, i, 0, n, n - o, a, 0, 1, false⟩] rc) = d_law16_SellBack_L0 l (m + (c + 1) + 40) (o - k) (b + 3) (j + 1) (F1 P' B' R' [⟨0, i, 0, n, n - o + k, a - d, 0, 1, false⟩] rc)) →
            ∃ b' P' R' j', 0 ≤ b' ∧ b' ≤ 36 ∧ PI j' n v P' ∧ 0 ≤ j' ∧ j' ≤ 12 ∧ d_law16_SellBack_L0 l (m + (c + 1) + 41) o b j (F1 P (F2 (v - a) (0 - v) (7 - b) (b - 7) a) R [⟨0, i, 0, n, n - o, a, 0, 1, false⟩] rc) =
              some (.inl (0, b', F1 P' (F2 v (0 - v) (7 - b') (b' - 7) 0) R' [⟨0, i, 0, n, n, 0, 0, 1, false⟩] rc)) := by
          intro k k0 k1 kj hst
          obtain ⟨d, ed, d0, d1, d2, d3⟩ := part_v (m := m + (c + 1)) (a := a) (k := k) (o := o) a0 (by omega) k0 k1 (by omega)
          obtain ⟨z, ez, z0, z1, _, _⟩ := part_v (m := m + (c + 1)) (a := 0) (k := k) (o := o) (Int.le_refl 0) (by omega) k0 k1 (by omega)
          have hz : z = 0 := by omega
          subst hz
          have hd3 : i = 3 → d = 10 * k ∧ v - a = 10 * (n - o) := fun h => ⟨d3 (h3 h).1, by have := h3 h; omega⟩
          obtain ⟨P', hPI', eb⟩ := HB (m + (c + 1)) j (n - o) (v - a) P k d hPI j0 hj k0 (by omega) (by omega) d0 (by omega) (by omega) hd3
          have ep := poB_r (m + (c + 1)) P' R [⟨0, i, 0, n, n - o, a, 0, 1, false⟩] rc (v - a) v a d b v0 v1 (by omega) (by omega) d0 d1 (by omega) b0 (by omega)
          have et := tuS_r P' (F2 (v - a + d) (0 - v) (4 - b) (b - 4) (a - d)) R [⟨0, i, 0, n, n - o, a, 0, 1, false⟩] rc i v (v - a) v d 0 (HP _ _ _ _ hPI') hR i0 i1 hr v0 v1 (by omega) (by omega) v0 v1 d0 (by omega) (Int.le_refl 0) (by omega)
          rw [hst d P' _ _ ed ez d0 d1 d2 (eb _ R _ rc hR) ep et]
          have hr' := ix_set hr (rfl : R.set i.toNat (⟨0, v, 0, 0, v - a + d, v + 0, 0, 0, 0, 0, 0⟩ : GRoll) = _)
          have hl' : ((R.set i.toNat (⟨0, v, 0, 0, v - a + d, v + 0, 0, 0, 0, 0, 0⟩ : GRoll)).length : Int) = 4 := by rw [List.length_set]; exact hR
          rw [show v - a + d = v - (a - d) from by omega, Int.add_zero] at hr' hl'
          rw [show v - a + d = v - (a - d) from by omega, Int.add_zero, show 4 - b = 7 - (b + 3) from by omega, show b - 4 = b + 3 - 7 from by omega, show n - o + k = n - (o - k) from by omega, show m + (c + 1) + 40 = m + c + 41 from by omega]
          rw [show n - o + k = n - (o - k) from by omega, show v - a + d = v - (a - d) from by omega] at hPI'
          exact back_loop hw i0 i1 n0 n1 v0 v1 HP HB c m (o - k) (a - d) (b + 3) (j + 1) P' _ hPI' (by omega) (by omega) (by omega) (by omega) (fun h => by have := d2 (by omega); omega) (fun h => by have := h3 h; have := d3 this.1; omega) (by omega) (by omega) (by omega) (by omega)
            (fun h => by have := kj (by omega); omega) (by omega) hl' hr'
        by_cases hl : j < (l.length : Int) ∧ j < 11
        · obtain ⟨y, hy, hm⟩ := ix_in j0 hl.1
          obtain ⟨q, e2, q0, q1⟩ := place_e (n := o) (by omega) (hw y hm)
          refine step (q + 1) (by omega) (by omega) (fun h => by omega) fun d P' B' R' ed ez d0 d1 _ eb ep et => ?_
          exact itA_r l (m + (c + 1)) P P' _ B' R R' rc i n o a b j (q + 1) d (HP _ _ _ _ hPI) hR i0 i1 n0 n1 (by omega) (by omega) o1 d0 d1 (by omega) j0 hj b0 (by omega) ed ez y hl.1 hl.2 hy (by rw [e2]; congr 1; omega) eb ep et
        · refine step o (by omega) (Int.le_refl o) (fun _ => rfl) fun d P' B' R' ed ez d0 d1 _ eb ep et => ?_
          rw [Int.sub_self, show n - o + o = n from by omega]
          exact itB_r l (m + (c + 1)) P P' _ B' R R' rc i n o a b j d (HP _ _ _ _ hPI) hR i0 i1 n0 n1 (by omega) o1 d0 d1 (by omega) j0 hj b0 (by omega) ed ez (by omega) eb ep et
def PI1 (j q w : Int) (P : List GPool) : Prop := (q = 0 ∧ w = 0 ∧ P = (F71 (F4 [] 0))) ∨ (1 ≤ q ∧ P = (F71 (F4 [⟨q, w, 0⟩] 0)))
theorem hb1 : HBring 1 PI1 := by
  intro m j q w P k d hP j0 j1 k0 q0 qk d0 w0 wd h3
  have ok1 : LOK [⟨k, d, 0⟩] := fun x hx => by simp at hx; subst hx; exact ⟨k0, d0, rfl⟩
  rcases hP with ⟨rfl, rfl, rfl⟩ | ⟨q1, rfl⟩
  · refine ⟨(F71 (F4 [⟨k, d, 0⟩] 0)), .inr ⟨by omega, by rw [Int.zero_add, Int.zero_add]⟩, fun B R S rc hR => ?_⟩
    have ei := fin_v (n := m + 40) (L := []) (x := ⟨k, d, 0⟩) (by simp <;> omega) (by simp) ok1 (by simp [lq, sm] <;> omega) (by simp [lv, sm] <;> omega)
    have et := tot_v (n := m + 39) (L := [⟨k, d, 0⟩]) (by simp <;> omega) (by simp) ok1 (by simp [lq, sm] <;> omega) (by simp [lv, sm] <;> omega)
    have ez := tot_v (n := m + 40) (L := [⟨k, d, 0⟩]) (by simp <;> omega) (by simp) ok1 (by simp [lq, sm] <;> omega) (by simp [lv, sm] <;> omega)
    simp only [lq, lv, List.map_cons, List.map_nil, sm, Int.add_zero] at et ez
    simp only [List.nil_append] at ei
    have es := sd1_r m B R S rc hR k d
    exact br1a_r m B R S rc hR k d k0 (by omega) d0 (by omega) ei et ez es
  · refine ⟨(F71 (F4 [⟨q + k, w + d, 0⟩] 0)), .inr ⟨by omega, rfl⟩, fun B R S rc hR => ?_⟩
    have ok2 : LOK ([⟨q, w, 0⟩] ++ [⟨k, d, 0⟩]) := fun x hx => by simp at hx; rcases hx with e | e <;> subst e; exact ⟨q1, w0, rfl⟩; exact ⟨k0, d0, rfl⟩
    have ok3 : LOK [⟨q + k, w + d, 0⟩] := fun x hx => by simp at hx; subst hx; exact ⟨by show 1 ≤ q + k; omega, by show 0 ≤ w + d; omega, rfl⟩
    have ei := fin_v (n := m + 40) (L := [⟨q, w, 0⟩]) (x := ⟨k, d, 0⟩) (by simp <;> omega) (by simp) ok2 (by simp [lq, sm] <;> omega) (by simp [lv, sm] <;> omega)
    have et := tot_v (n := m + 39) (L := [⟨q + k, w + d, 0⟩]) (by simp <;> omega) (by simp) ok3 (by simp [lq, sm] <;> omega) (by simp [lv, sm] <;> omega)
    have ez := tot_v (n := m + 40) (L := [⟨q, w, 0⟩] ++ [⟨k, d, 0⟩]) (by simp <;> omega) (by simp) ok2 (by simp [lq, sm] <;> omega) (by simp [lv, sm] <;> omega)
    simp only [lq, lv, List.map_cons, List.map_nil, sm, Int.add_zero, List.cons_append, List.nil_append] at et ez
    simp only [List.cons_append, List.nil_append] at ei
    have es := sd1_r m B R S rc hR (q + k) (w + d)
    exact br1b_r m B R S rc hR k d q w q1 (by omega) w0 (by omega) k0 (by omega) d0 (by omega) ei et ez es
def PI3 (j q w : Int) (P : List GPool) : Prop := (q = 0 ∧ w = 0 ∧ P = (F73 (F4 [] 0))) ∨ (1 ≤ q ∧ P = (F73 (F4 [⟨q, w, 0⟩] 0)))
theorem hb3 : HBring 3 PI3 := by
  intro m j q w P k d hP j0 j1 k0 q0 qk d0 w0 wd h3
  have ok1 : LOK [⟨k, d, 0⟩] := fun x hx => by simp at hx; subst hx; exact ⟨k0, d0, rfl⟩
  rcases hP with ⟨rfl, rfl, rfl⟩ | ⟨q1, rfl⟩
  · refine ⟨(F73 (F4 [⟨k, d, 0⟩] 0)), .inr ⟨by omega, by rw [Int.zero_add, Int.zero_add]⟩, fun B R S rc hR => ?_⟩
    have ei := fin_v (n := m + 40) (L := []) (x := ⟨k, d, 0⟩) (by simp <;> omega) (by simp) ok1 (by simp [lq, sm] <;> omega) (by simp [lv, sm] <;> omega)
    have et := tot_v (n := m + 39) (L := [⟨k, d, 0⟩]) (by simp <;> omega) (by simp) ok1 (by simp [lq, sm] <;> omega) (by simp [lv, sm] <;> omega)
    have ez := tot_v (n := m + 40) (L := [⟨k, d, 0⟩]) (by simp <;> omega) (by simp) ok1 (by simp [lq, sm] <;> omega) (by simp [lv, sm] <;> omega)
    simp only [lq, lv, List.map_cons, List.map_nil, sm, Int.add_zero] at et ez
    simp only [List.nil_append] at ei
    have es := sd3_r m B R S rc hR k d
    obtain ⟨rfl, -⟩ := h3 rfl
    exact br3a_r m B R S rc hR k k0 (by omega) ei et ez es
  · refine ⟨(F73 (F4 [⟨q + k, w + d, 0⟩] 0)), .inr ⟨by omega, rfl⟩, fun B R S rc hR => ?_⟩
    have ok2 : LOK ([⟨q, w, 0⟩] ++ [⟨k, d, 0⟩]) := fun x hx => by simp at hx; rcases hx with e | e <;> subst e; exact ⟨q1, w0, rfl⟩; exact ⟨k0, d0, rfl⟩
    have ok3 : LOK [⟨q + k, w + d, 0⟩] := fun x hx => by simp at hx; subst hx; exact ⟨by show 1 ≤ q + k; omega, by show 0 ≤ w + d; omega, rfl⟩
    have ei := fin_v (n := m + 40) (L := [⟨q, w, 0⟩]) (x := ⟨k, d, 0⟩) (by simp <;> omega) (by simp) ok2 (by simp [lq, sm] <;> omega) (by simp [lv, sm] <;> omega)
    have et := tot_v (n := m + 39) (L := [⟨q + k, w + d, 0⟩]) (by simp <;> omega) (by simp) ok3 (by simp [lq, sm] <;> omega) (by simp [lv, sm] <;> omega)
    have ez := tot_v (n := m + 40) (L := [⟨q, w, 0⟩] ++ [⟨k, d, 0⟩]) (by simp <;> omega) (by simp) ok2 (by simp [lq, sm] <;> omega) (by simp [lv, sm] <;> omega)
    simp only [lq, lv, List.map_cons, List.map_nil, sm, Int.add_zero, List.cons_append, List.nil_append] at et ez
    simp only [List.cons_append, List.nil_append] at ei
    have es := sd3_r m B R S rc hR (q + k) (w + d)
    obtain ⟨rfl, rfl⟩ := h3 rfl
    exact br3b_r m B R S rc hR k q q1 (by omega) k0 (by omega) ei et ez es
def PI0 (j q w : Int) (P : List GPool) : Prop := ∃ L : List GLayer, LOK L ∧ sm (lq L) = q ∧ sm (lv L) = w ∧ (L.length : Int) ≤ j ∧ P = (F70 (F4 L 0))
theorem hb0 : HBring 0 PI0 := by
  intro m j q w P k d hP j0 j1 k0 q0 qk d0 w0 wd h3
  obtain ⟨L, ok, hq, hv, hl, rfl⟩ := hP
  have ok1 : LOK (L ++ [⟨k, d, 0⟩]) := fun x hx => by
    rcases List.mem_append.1 hx with h | h
    · exact ok x h
    · simp at h; subst h; exact ⟨k0, d0, rfl⟩
  have hq1 : sm (lq (L ++ [⟨k, d, 0⟩])) = q + k := by simp [lq, sm_app, sm]; simp [lq] at hq; omega
  have hv1 : sm (lv (L ++ [⟨k, d, 0⟩])) = w + d := by simp [lv, sm_app, sm]; simp [lv] at hv; omega
  refine ⟨(F70 (F4 (L ++ [⟨k, d, 0⟩]) 0)), ⟨L ++ [⟨k, d, 0⟩], ok1, hq1, hv1, by simp <;> omega, rfl⟩, fun B R S rc hR => ?_⟩
  have ei := fin_v (n := m + 40) (L := L) (x := ⟨k, d, 0⟩) (by omega) (by omega) ok1 (by omega) (by omega)
  have et := tot_v (n := m + 39) (L := L ++ [⟨k, d, 0⟩]) (by simp <;> omega) (by simp <;> omega) ok1 (by omega) (by omega)
  have es := sst_v (n := m + 40) (L := L ++ [⟨k, d, 0⟩]) (B := B) (R := R) (S := S) (rc := rc) (by simp <;> omega) (by simp <;> omega) ok1 hR
  rw [hq1, hv1] at et
  have hb := br0_r m B R S rc hR L (L ++ [⟨k, d, 0⟩]) k d (q + k) (w + d) k0 (by omega) d0 (by omega) (by omega) (by omega) (by omega) (by omega) (by simp <;> omega)
  have hb := hb ei
  have hb := hb et
  have hb := hb es
  exact hb
theorem wait_loop {n v : Int} {l : List Int} {rc : GReceipt} {R : List GRoll} (hw : ∀ x ∈ l, -9223372036854775808 ≤ x ∧ x ≤ 9223372036854775807) (hR : (R.length : Int) = 4) (n0 : 1 ≤ n) (n1 : n ≤ 200) (v0 : 0 ≤ v) (v1 : v < 10000) :
    ∀ (c m : Nat) (o b j : Int), 0 ≤ o → o ≤ n → 0 ≤ b → b ≤ 3 * j → 0 ≤ j → j ≤ 12 → (j = 12 → o = 0) → (12 - j).toNat ≤ c →
      ∃ b', 0 ≤ b' ∧ b' ≤ 36 ∧ d_law16_SellBack_L0 l (m + c + 41) o b j (F1 (F72 (F4 [⟨n, v, 0⟩] (o))) (F2 v (0 - v) (7 - b) (b - 7) 0) R [⟨0, 2, 0, n, n - o, 0, 0, 1, true⟩] rc) =
        some (.inl (0, b', F1 (F72 (F4 [⟨n, v, 0⟩] 0)) (F2 v (0 - v) (7 - b') (b' - 7) 0) R [⟨0, 2, 0, n, n, 0, 0, 1, true⟩] rc))
  | c, m, o, b, j, o0, o1, b0, b1, j0, j1, j12, jc => by
    by_cases ho : o = 0
    · subst ho
      rw [Int.sub_zero]
      exact ⟨b, b0, by omega, itE_r l (m + c) _ _ R _ rc b j⟩
    · have hj : j < 12 := by
        rcases Int.lt_or_le j 12 with h | h
        · exact h
        · exact absurd (j12 (by omega)) ho
      cases c with
      | zero => omega
      | succ c =>
        have ep := poU_r (m + (c + 1)) (F72 (F4 [⟨n, v, 0⟩] (o))) R [⟨0, 2, 0, n, n - o, 0, 0, 1, true⟩] rc v b v0 v1 b0 (by omega)
        by_cases hl : j < (l.length : Int) ∧ j < 11
        · obtain ⟨y, hy, hm⟩ := ix_in j0 hl.1
          obtain ⟨q, e2, q0, q1⟩ := place_e (n := o) (by omega) (hw y hm)
          rw [iuA_r l (m + (c + 1)) _ _ R rc n v o b j (q + 1) hR n0 n1 (by omega) (by omega) o1 v0 v1 j0 hj b0 (by omega) y hl.1 hl.2 hy (by rw [e2]; congr 1; omega) ep]
          rw [show 4 - b = 7 - (b + 3) from by omega, show b - 4 = b + 3 - 7 from by omega, show n - o + (q + 1) = n - (o - (q + 1)) from by omega, show m + (c + 1) + 40 = m + c + 41 from by omega]
          exact wait_loop hw hR n0 n1 v0 v1 c m (o - (q + 1)) (b + 3) (j + 1) (by omega) (by omega) (by omega) (by omega) (by omega) (by omega) (by omega) (by omega)
        · rw [iuB_r l (m + (c + 1)) _ _ R rc n v o b j hR n0 n1 (by omega) o1 v0 v1 j0 hj b0 (by omega) (by omega) ep]
          rw [show 4 - b = 7 - (b + 3) from by omega, show b - 4 = b + 3 - 7 from by omega, show m + (c + 1) + 40 = m + c + 41 from by omega]
          have := wait_loop (rc := rc) hw hR n0 n1 v0 v1 c m 0 (b + 3) (j + 1) (Int.le_refl 0) (by omega) (by omega) (by omega) (by omega) (by omega) (by omega) (by omega)
          rw [Int.sub_zero] at this
          exact this
theorem worth0 {L : List GLayer} {n v : Int} (B : List Int) (R : List GRoll) (S : List GSale) (rc : GReceipt) (ok : LOK L) (hq : sm (lq L) = n) (hv : sm (lv L) = v) (hl : L.length ≤ 12) (n1 : n ≤ 200) (v1 : v < 10000) : d_ref14_Worth 80 (F1 (F70 (F4 L 0)) B R S rc) 0 0 = some ⟨n, v, 0⟩ := by
  have hnn := sm_lq_nn ok
  have hA0 : d_ref14_At (F1 (F70 (F4 L 0)) B R S rc) 0 0 0 = some (F4 L 0) := rfl
  have hA1 : d_ref14_At (F1 (F70 (F4 L 0)) B R S rc) 0 0 1 = some (F4 [] 0) := rfl
  have hr := rtot_v (n := 79) (L := L) (by omega) (by omega) ok (by omega) (by omega)
  rw [hq, hv] at hr
  have hT0 : d_ref13_Total 79 (F4 L 0) = some ⟨n, v, 0⟩ := by
    show d_ref13_Total 79 ⟨L, ⟨0, 0, 0⟩⟩ = _
    unfold d_ref13_Total
    exact vauto
  have hT1 : d_ref13_Total 78 (F4 [] 0) = some ⟨0, 0, 0⟩ := rfl
  have c2 : d_ref14_worth_L0 (F1 (F70 (F4 L 0)) B R S rc) 0 0 78 2 [n, 0] [v, 0] [0, 0] = some ([n, 0], [v, 0], [0, 0]) := by
    show d_ref14_worth_L0 _ 0 0 (77 + 1) 2 _ _ _ = _
    rw [d_ref14_worth_L0]
    exact vauto
  have c1 : d_ref14_worth_L0 (F1 (F70 (F4 L 0)) B R S rc) 0 0 79 1 [n] [v] [0] = some ([n, 0], [v, 0], [0, 0]) := by
    have c2 : d_ref14_worth_L0 _ 0 0 78 (1 + 1) [n, 0] [v, 0] [0, 0] = _ := c2
    show d_ref14_worth_L0 _ 0 0 (78 + 1) 1 _ _ _ = _
    rw [d_ref14_worth_L0]
    exact vauto
  have c0 : d_ref14_worth_L0 (F1 (F70 (F4 L 0)) B R S rc) 0 0 80 0 [] [] [] = some ([n, 0], [v, 0], [0, 0]) := by
    have c1 : d_ref14_worth_L0 _ 0 0 79 (0 + 1) [n] [v] [0] = _ := c1
    show d_ref14_worth_L0 _ 0 0 (79 + 1) 0 _ _ _ = _
    rw [d_ref14_worth_L0]
    exact vauto
  have s1 := rs2_r n (by omega) (by omega)
  have s2 := rs2_r v (by omega) (by omega)
  have s3 := rs2_r 0 (by omega) (by omega)
  unfold d_ref14_Worth d_ref14_worth
  exact vauto
theorem auto16 {α : Type} {D : Option α} {r : α} (h : D = some r := by unfold d_law16_SellBack; exact vauto) : D = some r := h
theorem aw16 : d_law16_awake 80 = some true := by decide +kernel
end Go.Pv
