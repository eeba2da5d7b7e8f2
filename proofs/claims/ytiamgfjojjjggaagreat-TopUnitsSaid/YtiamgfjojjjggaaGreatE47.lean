/- TopUnits: layers of pieces: what comes, what goes. -/
import Derived.Test.YtiamgfjojjjggaaGreatV47
set_option linter.unusedSimpArgs false
set_option linter.unusedVariables false
namespace Go.Pv
open Go.Proofs
set_option maxRecDepth 100000
set_option maxHeartbeats 1000000
def mkL (l : List (Nat × Int)) : List GLayer := l.map fun x => ⟨x.1, x.1 * x.2, 0⟩
theorem mkL_len {l : List (Nat × Int)} : (mkL l).length = l.length := List.length_map ..
theorem mkL_app (a b : List (Nat × Int)) : mkL (a ++ b) = mkL a ++ mkL b := List.map_append
theorem prodB {n p : Int} (hn : 0 ≤ n ∧ n ≤ 12) (hp : 0 ≤ p ∧ p ≤ 89) : 0 ≤ n * p ∧ n * p ≤ 1068 := by
  refine ⟨Int.mul_nonneg hn.1 hp.1, ?_⟩
  have := Int.mul_le_mul hn.2 hp.2 hp.1 (by decide); omega
theorem mkL_ok : ∀ {l : List (Nat × Int)}, POk l → LOk (mkL l) := fun {l} h x hx => by
  obtain ⟨y, hy, rfl⟩ := List.mem_map.1 hx
  have := h y hy
  refine ⟨by dsimp only; omega, ?_, rfl⟩
  exact (prodB (n := (y.1 : Int)) (by omega) this.2.2).1
theorem mkL_sq : ∀ l : List (Nat × Int), sq (mkL l) = ((flat l).length : Int)
  | [] => rfl
  | x :: r => by
    show (x.1 : Int) + sq (mkL r) = _
    rw [mkL_sq r, flat, List.length_append, List.length_replicate]; omega
theorem mkL_sv : ∀ l : List (Nat × Int), sv (mkL l) = su (flat l)
  | [] => rfl
  | x :: r => by
    show (x.1 : Int) * x.2 + sv (mkL r) = _
    rw [mkL_sv r, flat, su_app, su_rep]
theorem flat_b {l : List (Nat × Int)} (h : POk l) (hl : l.length ≤ 30) : (flat l).length ≤ 360 ∧ 0 ≤ su (flat l) ∧ su (flat l) ≤ 32040 := by
  have h1 := (flatL_len h).2
  have h2 := su_le (flat_in h)
  omega
theorem totU {l : List (Nat × Int)} (h : POk l) (hl : l.length ≤ 30) {n : Nat} (hn : 100 < n) : d_fifo_Total n (mkL l) = some (⟨(flat l).length, su (flat l), 0⟩, 0) := by
  have h1 := flat_b h hl
  have := totL (mkL_ok h) (by rw [mkL_len]; omega) (by rw [mkL_sq]; omega) (by rw [mkL_sv]; omega) hn
  rwa [mkL_sq, mkL_sv] at this
theorem hasG (l : List (Nat × Int)) (h : POk l) (hl : l.length ≤ 1000) : ∀ (d k n : Nat) (q : Int), k + d = l.length → d < n → 1 ≤ q ∧ q ≤ 1000 → d_fifo_has_L0 (mkL l) n q (k : Int) = if q ≤ ((flat (l.drop k)).length : Int) then some (.inr true) else some (.inl ()) := by
  intro d
  induction d with
  | zero =>
    intro k n q hk hn hq
    obtain ⟨n, rfl⟩ : ∃ m, n = m + 1 := ⟨n - 1, by omega⟩
    rw [d_fifo_has_L0, List.drop_eq_nil_of_le (by omega), if_neg (by simp [flat]; omega)]
    exact v_F (by rw [mkL_len]; omega) (v_cF rfl)
  | succ d ih =>
    intro k n q hk hn hq
    obtain ⟨n, rfl⟩ : ∃ m, n = m + 1 := ⟨n - 1, by omega⟩
    have hlt : k < l.length := by omega
    have hx := h l[k] (List.getElem_mem hlt)
    rw [d_fifo_has_L0]
    have hdr : l.drop k = l[k] :: l.drop (k + 1) := List.drop_eq_getElem_cons hlt
    have hfl : (flat (l.drop k)).length = l[k].1 + (flat (l.drop (k + 1))).length := by rw [hdr, flat, List.length_append, List.length_replicate]
    refine v_T (by rw [mkL_len]; omega) (v_cT (v_ix (v := ⟨l[k].1, l[k].1 * l[k].2, 0⟩) (by omega) (by rw [Int.toNat_natCast, mkL, List.getElem?_map, List.getElem?_eq_getElem hlt]; rfl) ?_))
    show bnd (if (0 : Int) > (l[k].1 : Int) then 0 else (l[k].1 : Int)) _ = _
    refine v_ifF (by omega) ?_
    by_cases hq1 : q ≤ (l[k].1 : Int)
    · rw [show (if q ≤ ((flat (l.drop k)).length : Int) then some (.inr true) else some (.inl ()) : Option (Unit ⊕ Bool)) = some (.inr true) from if_pos (by omega)]
      by_cases hq2 : q < (l[k].1 : Int)
      · refine v_ifT hq2 ?_
        refine v_w (by omega) ?_
        exact v_T (by omega) (v_cT rfl)
      · refine v_ifF hq2 ?_
        refine v_w (by omega) ?_
        exact v_T (by omega) (v_cT rfl)
    · refine v_ifF (by omega) ?_
      refine v_w (by omega) ?_
      refine v_F (by omega) (v_cF ?_)
      refine v_w (by omega) ?_
      have := ih (k + 1) n (q - l[k].1) (by omega) (by omega) (by omega)
      rw [show ((k : Int) + 1) = ((k + 1 : Nat) : Int) by omega, this]
      by_cases hc : q ≤ ((flat (l.drop k)).length : Int)
      · rw [if_pos hc, if_pos (by omega)]
      · rw [if_neg hc, if_neg (by omega)]
theorem hasU {l : List (Nat × Int)} (h : POk l) (hl : l.length ≤ 30) {q : Int} (hq : 1 ≤ q ∧ q ≤ 1000) {n : Nat} (hn : 100 < n) : d_fifo_has n (mkL l) q = some (decide (q ≤ ((flat l).length : Int))) := by
  unfold d_fifo_has
  have := hasG l h (by omega) l.length 0 n q (by omega) (by omega) hq
  rw [List.drop_zero] at this
  by_cases hc : q ≤ ((flat l).length : Int)
  · rw [if_pos hc] at this
    rw [decide_eq_true hc]
    exact v_bi this (v_sele rfl)
  · rw [if_neg hc] at this
    rw [decide_eq_false hc]
    exact v_bi this (v_selb rfl)
theorem partV {n p q : Int} (hn : 1 ≤ n ∧ n ≤ 12) (hp : 0 ≤ p ∧ p ≤ 89) (hq : 1 ≤ q ∧ q < n) {m : Nat} : d_money_Part (m + 12) (n * p) q n = some (q * p) := by
  have hb := prodB (n := n) (by omega) hp
  have hm := muldiv_v (n := m) (a := n * p) (b := q) (c := n) (by omega) (by omega) (by omega)
  have e : (n * p * q).tdiv n = q * p := by rw [Int.mul_assoc, Int.mul_tdiv_cancel_left _ (by omega), Int.mul_comm]
  rw [e] at hm
  unfold d_money_Part
  refine v_bi (a := false) (v_F (by omega) (v_cF (v_F (by omega) (v_cF (v_F (by omega) (v_cF (v_bi (in_v (by omega)) (v_nT rfl)))))))) ?_
  exact v_as rfl (v_F (by omega) (v_as rfl (v_F (by omega) (v_as rfl (v_bi hm rfl)))))
theorem partZ {n q : Int} (hn : 1 ≤ n ∧ n ≤ 12) (hq : 1 ≤ q ∧ q < n) {m : Nat} : d_money_Part (m + 12) 0 q n = some 0 := by
  have := partV (p := 0) hn (by omega) hq (m := m)
  rwa [Int.mul_zero, Int.mul_zero] at this
theorem outG : ∀ (l : List (Nat × Int)) (h : POk l) (n off len : Nat) (q : Nat) (ls : List GLayer) (a b : Int), l.length + 20 < n → (ls.drop off).take len = mkL l → len = l.length → off + len ≤ ls.length → ls.length ≤ 1000 → q ≤ (flat l).length → q ≤ 1000 → 0 ≤ a ∧ a ≤ 100000 - q → 0 ≤ b ∧ b + su (flat l) ≤ 1000000 →
    ∃ off' len' ls', d_fifo_Out_L0 n off len (q : Int) ls ⟨a, b, 0⟩ = some (off', len', ls', ⟨a + q, b + su ((flat l).take q), 0⟩) ∧ (ls'.drop off').take len' = mkL (cut l q) ∧ off' + len' ≤ ls'.length := by
  intro l
  induction l with
  | nil =>
    intro h n off len q ls a b hn hd hl ho hll hq hq1 ha hb
    obtain ⟨n, rfl⟩ : ∃ m, n = m + 1 := ⟨n - 1, by omega⟩
    have hq0 : q = 0 := by simpa [flat] using hq
    have hl0 : len = 0 := hl
    subst hq0 hl0
    refine ⟨off, 0, ls, ?_, by simp [cut, mkL], ho⟩
    rw [d_fifo_Out_L0]
    refine v_bi (a := false) (v_F (by omega) (v_cF rfl)) (v_cF ?_)
    simp [flat, su]
  | cons x r ih =>
    intro h n off len q ls a b hn hd hl ho hll hq hq1 ha hb
    obtain ⟨n, rfl⟩ : ∃ m, n = m + 1 := ⟨n - 1, by omega⟩
    have hx := h.head
    have hpb := prodB (n := (x.1 : Int)) (p := x.2) (by omega) (by omega)
    simp only [List.length_cons] at hl hn
    by_cases hq0 : q = 0
    · subst hq0
      refine ⟨off, len, ls, ?_, by rw [hd, cut0 h], ho⟩
      rw [d_fifo_Out_L0]
      refine v_bi (a := false) (v_T (by omega) (v_cT (v_F (by omega) rfl))) (v_cF ?_)
      simp [su]
    · have hlt : off < ls.length := by omega
      have hd0 : ls.drop off = ls[off] :: ls.drop (off + 1) := List.drop_eq_getElem_cons hlt
      obtain ⟨m, rfl⟩ : ∃ m, len = m + 1 := ⟨len - 1, by omega⟩
      rw [hd0, List.take_succ_cons] at hd
      have hd1 : ls[off] = ⟨x.1, x.1 * x.2, 0⟩ ∧ (ls.drop (off + 1)).take m = mkL r := by
        have : mkL (x :: r) = ⟨x.1, x.1 * x.2, 0⟩ :: mkL r := rfl
        rw [this] at hd
        exact List.cons.inj hd
      have hix : ls[((off : Int) + 0).toNat]? = some ⟨x.1, x.1 * x.2, 0⟩ := by rw [Int.add_zero, Int.toNat_natCast, List.getElem?_eq_getElem hlt, hd1.1]
      have hfl : (flat (x :: r)).length = x.1 + (flat r).length := by rw [flat, List.length_append, List.length_replicate]
      have hsf : su (flat (x :: r)) = x.1 * x.2 + su (flat r) := by rw [flat, su_app, su_rep]
      have hsr := su_le (flat_in h.tail)
      have ht := take_cons x r q
      have hc0 : (0 : Int) ≤ 0 ∧ 0 < ((m + 1 : Nat) : Int) := by omega
      by_cases hg : (x.1 : Int) > q
      · have hqp := prodB (n := (q : Int)) (p := x.2) (by omega) (by omega)
        have hdp := prodB (n := (x.1 : Int) - q) (p := x.2) (by omega) (by omega)
        have hsm : ((x.1 : Int) - q) * x.2 = x.1 * x.2 - q * x.2 := Int.sub_mul ..
        obtain ⟨n, rfl⟩ : ∃ m, n = m + 12 := ⟨n - 12, by omega⟩
        have p1 := partV (n := x.1) (p := x.2) (q := q) (m := n) (by omega) (by omega) (by omega)
        have p2' := partZ (n := x.1) (q := q) (m := n) (by omega) (by omega)
        rw [if_neg (by omega)] at ht
        have hset : ((ls.set off ⟨(x.1 : Int) - q, x.1 * x.2, 0⟩).set off ⟨(x.1 : Int) - q, x.1 * x.2 - q * x.2, 0⟩).set off ⟨(x.1 : Int) - q, x.1 * x.2 - q * x.2, 0 - 0⟩ = ls.set off ⟨(x.1 : Int) - q, ((x.1 : Int) - q) * x.2, 0⟩ := by
          rw [List.set_set, List.set_set, hsm]; rfl
        refine ⟨off, m + 1, ls.set off ⟨(x.1 : Int) - q, ((x.1 : Int) - q) * x.2, 0⟩, ?_, ?_, by rw [List.length_set]; omega⟩
        · rw [d_fifo_Out_L0]
          have e0 : ((off : Int) + 0).toNat = off := by omega
          refine v_bi (a := true) (v_T (by omega) (v_cT (v_T (by omega) rfl))) (v_cT ?_)
          refine v_as hc0 (v_ix (by omega) hix (v_T hg ?_))
          refine v_bi (a := (off, m + 1, ls.set off ⟨(x.1 : Int) - q, ((x.1 : Int) - q) * x.2, 0⟩, ⟨(q : Int), q * x.2, 0⟩)) (v_cT ?_) ?_
          · refine v_bi p1 (v_bi p2' (v_as hc0 (v_w (by dsimp only; omega) (v_as hc0 (v_w (by dsimp only; omega) (v_as hc0 (v_w (by dsimp only; omega) (v_as hc0 (v_bnd (v_as hc0 (v_bnd (v_as hc0 (v_bnd ?_)))))))))))))
            dsimp only
            rw [e0, hset]
          · refine v_p2 (v_p2 (v_p2 (v_w (by dsimp only; omega) (v_w (by dsimp only; omega) (v_w (by dsimp only; omega) (v_w (by dsimp only; omega) ?_))))))
            rw [d_fifo_Out_L0]
            refine v_bi (a := false) (v_T (by omega) (v_cT (v_F (by dsimp only; omega) rfl))) (v_cF ?_)
            rw [ht]; rfl
        · have hdr : (ls.set off ⟨(x.1 : Int) - q, ((x.1 : Int) - q) * x.2, 0⟩).drop off = ⟨(x.1 : Int) - q, ((x.1 : Int) - q) * x.2, 0⟩ :: ls.drop (off + 1) := by
            rw [List.drop_eq_getElem_cons (by rw [List.length_set]; exact hlt), List.getElem_set_self, List.drop_set_of_lt (by omega)]
          rw [hdr, List.take_succ_cons, hd1.2, cut, if_neg (by omega)]
          show _ = ⟨((x.1 - q : Nat) : Int), ((x.1 - q : Nat) : Int) * x.2, 0⟩ :: mkL r
          rw [show ((x.1 - q : Nat) : Int) = (x.1 : Int) - q by omega]
      · rw [if_pos (by omega)] at ht
        have e2 : (Int.toNat ((m + 1 : Nat) : Int)) - 1 = m := by omega
        have eq : (q : Int) - x.1 = ((q - x.1 : Nat) : Int) := by omega
        obtain ⟨off', len', ls', g1, g2, g3⟩ := ih h.tail n (if Int.toNat ((m + 1 : Nat) : Int) = 1 then off else off + 1) m (q - x.1) ls (a + x.1) (b + x.1 * x.2) (by omega) (by
            split
            · have : m = 0 := by omega
              subst this
              have hr0 : r = [] := List.eq_nil_of_length_eq_zero (by omega)
              subst hr0; simp [mkL]
            · exact hd1.2) (by omega) (by split <;> omega) hll (by omega) (by omega) (by omega) (by omega)
        refine ⟨off', len', ls', ?_, by rw [g2, cut, if_pos (by omega)], g3⟩
        rw [d_fifo_Out_L0]
        refine v_bi (a := true) (v_T (by omega) (v_cT (v_T (by omega) rfl))) (v_cT ?_)
        refine v_as hc0 (v_ix (by omega) hix (v_F hg ?_))
        refine v_bi (a := (if Int.toNat ((m + 1 : Nat) : Int) = 1 then off else off + 1, (Int.toNat ((m + 1 : Nat) : Int)) - 1, ls, ⟨(x.1 : Int), x.1 * x.2, 0⟩)) (v_cF ?_) ?_
        · exact v_as (by omega) (v_bnd rfl)
        · refine v_p2 (v_p2 (v_p2 (v_w (by dsimp only; omega) (v_w (by dsimp only; omega) (v_w (by dsimp only; omega) (v_w (by dsimp only; omega) ?_))))))
          dsimp only
          rw [e2, eq, Int.add_zero, g1, ht]
          have e3 : a + (x.1 : Int) + ((q - x.1 : Nat) : Int) = a + (q : Int) := by omega
          rw [e3, Int.add_assoc]
theorem outT {l : List (Nat × Int)} (h : POk l) (hl : l.length ≤ 30) {q : Nat} (hq : 1 ≤ q ∧ q ≤ 1000) (hf : q ≤ (flat l).length) {n : Nat} (hn : 100 < n) : d_fifo_Out n (mkL l) q = some (mkL (cut l q), ⟨q, su ((flat l).take q), 0⟩, 0) := by
  have hb := flat_b h hl
  obtain ⟨o, k, ls, g1, g2, g3⟩ := outG l h n 0 l.length q (mkL l) 0 0 (by omega) (by rw [List.drop_zero, ← mkL_len, List.take_length]) rfl (by rw [mkL_len]; omega) (by rw [mkL_len]; omega) hf (by omega) (by omega) (by omega)
  rw [Int.zero_add, Int.zero_add] at g1
  have hh := hasU h hl (q := q) (by omega) hn
  rw [decide_eq_true (by omega)] at hh
  unfold d_fifo_Out
  refine v_as (by rw [mkL_len]; omega) (v_F (by omega) (v_as rfl (v_bi hh (v_nT (v_cF ?_)))))
  rw [mkL_len]
  refine v_bi g1 (v_p2 (v_p2 (v_p2 (v_as g3 ?_))))
  rw [g2]
theorem outF {l : List (Nat × Int)} (h : POk l) (hl : l.length ≤ 30) {q : Nat} (hq : 1 ≤ q ∧ q ≤ 1000) (hf : ¬ q ≤ (flat l).length) {n : Nat} (hn : 100 < n) : d_fifo_Out n (mkL l) q = some (mkL l, ⟨0, 0, 0⟩, 5) := by
  have hh := hasU h hl (q := q) (by omega) hn
  rw [decide_eq_false (by omega)] at hh
  unfold d_fifo_Out
  exact v_as (by rw [mkL_len]; omega) (v_F (by omega) (v_as rfl (v_bi hh (v_nF (v_cT rfl)))))
theorem finU {l : List (Nat × Int)} (h : POk l) (hl : l.length < 30) {k : Nat} {p : Int} (hk : 1 ≤ k ∧ k ≤ 12) (hp : 0 ≤ p ∧ p ≤ 89) {n : Nat} (hn : 100 < n) : d_fifo_In n (mkL l) ⟨k, k * p, 0⟩ = some (mkL (l ++ [(k, p)]), 0) := by
  have hb := flat_b (h.app hk hp) (by simp; omega)
  have hpb := prodB (n := (k : Int)) (p := p) (by omega) hp
  have hr := rgtL (mkL_ok (h.app hk hp)) (by rw [mkL_len]; simp; omega) (by rw [mkL_sq]; omega) (by rw [mkL_sv]; omega) hn
  unfold d_fifo_In
  refine v_as (by rw [mkL_len]; omega) (v_bi (a := false) (v_F (by dsimp only; omega) (v_cF (v_F (by dsimp only; omega) rfl))) (v_as rfl (v_F (by rw [mkL_len]; omega) (v_cF (v_as (by rw [mkL_len]; omega) (v_bnd ?_))))))
  rw [show mkL l ++ [⟨(k : Int), k * p, 0⟩] = mkL (l ++ [(k, p)]) from (mkL_app l [(k, p)]).symm]
  exact v_as (by rw [mkL_len]; simp; omega) (v_bi hr (v_nT (v_as rfl rfl)))
theorem finUF {l : List (Nat × Int)} (hl : l.length = 30) {k : Nat} {p : Int} (hk : 1 ≤ k ∧ k ≤ 12) (hp : 0 ≤ p ∧ p ≤ 89) {n : Nat} : d_fifo_In n (mkL l) ⟨k, k * p, 0⟩ = some (mkL l, 6) := by
  have hpb := prodB (n := (k : Int)) (p := p) (by omega) hp
  unfold d_fifo_In
  exact v_as (by rw [mkL_len]; omega) (v_bi (a := false) (v_F (by dsimp only; omega) (v_cF (v_F (by dsimp only; omega) rfl))) (v_as rfl (v_T (by rw [mkL_len]; omega) (v_cT rfl))))
end Go.Pv
