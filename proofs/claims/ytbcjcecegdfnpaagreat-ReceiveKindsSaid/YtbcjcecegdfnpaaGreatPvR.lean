/- Numbers as bytes, read again. -/
import Derived.Test.YtbcjcecegdfnpaaGreatPvQ
set_option linter.unusedSimpArgs false
set_option linter.unusedVariables false
namespace Go.Pv
theorem u8_nat {n : Nat} (h : n < 256) : (UInt8.ofNat n).toNat = n := by simp; omega
theorem pow_succ7 (i : Nat) : 2 ^ (7 * (i + 1)) = 128 * 2 ^ (7 * i) := by rw [Nat.mul_add, Nat.pow_add, Nat.mul_comm]
theorem rd_encF : ∀ (f u i acc : Nat) (rest : List UInt8), i + f = 10 → (i = 0 ∨ 0 < u) → u * 2 ^ (7 * i) < 2 ^ 64 → rd (encF f u ++ rest) i acc = some (acc + u * 2 ^ (7 * i), rest)
  | 0, u, i, acc, rest, hi, hu, hb => by
    have : i = 10 := by omega
    subst this
    have : 0 < u := by omega
    have : 1 * 2 ^ (7 * 10) ≤ u * 2 ^ (7 * 10) := Nat.mul_le_mul_right _ (by omega)
    omega
  | f + 1, u, i, acc, rest, hi, hu, hb => by
    have hu9 : i = 9 → u ≤ 1 := by
      intro h; subst h
      rcases Nat.lt_or_ge 1 u with h2 | h2
      · have : 2 * 2 ^ (7 * 9) ≤ u * 2 ^ (7 * 9) := Nat.mul_le_mul_right _ (by omega)
        omega
      · exact h2
    by_cases h : u < 128
    · rw [encF_lt _ h]
      have hc : (UInt8.ofNat u).toNat = u := u8_nat (by omega)
      simp only [List.singleton_append, rd, hc]
      rw [if_neg (by omega), if_neg (by omega), if_neg (by omega), Nat.mod_eq_of_lt h]
    · rw [encF_ge _ (by omega)]
      have hc : (UInt8.ofNat (u % 128 + 128)).toNat = u % 128 + 128 := u8_nat (by omega)
      simp only [List.cons_append, rd, hc]
      rw [if_neg (by omega), if_pos (by omega)]
      have h7 := pow_succ7 i
      have hsplit : u * 2 ^ (7 * i) = u % 128 * 2 ^ (7 * i) + u / 128 * 2 ^ (7 * (i + 1)) := by
        rw [h7, ← Nat.mul_assoc, ← Nat.add_mul]; congr 1; omega
      have hmod : (u % 128 + 128) % 128 = u % 128 := by omega
      rw [rd_encF f (u / 128) (i + 1) _ rest (by omega) (by omega) (by omega), hmod, hsplit]
      congr 2; omega
theorem rd_cut : ∀ (f u i acc q : Nat), q < (encF f u).length → rd ((encF f u).take q) i acc = none
  | 0, u, i, acc, q, hq => by
    have : q = 0 := by simp [encF] at hq; omega
    subst this; rfl
  | f + 1, u, i, acc, q, hq => by
    by_cases h : u < 128
    · rw [encF_lt _ h] at hq ⊢
      have : q = 0 := by simp at hq; omega
      subst this; rfl
    · rw [encF_ge _ (by omega)] at hq ⊢
      cases q with
      | zero => rfl
      | succ q =>
        have hc : (UInt8.ofNat (u % 128 + 128)).toNat = u % 128 + 128 := u8_nat (by omega)
        simp only [List.take_succ_cons, rd, hc]
        split
        · rfl
        · rw [if_pos (by omega)]
          exact rd_cut f (u / 128) (i + 1) _ q (by simp at hq; exact hq)
theorem unzz_zz (v : Int) : unzz (zz v) = v := by
  rw [unzz_eq]; unfold zz; split <;> split <;> omega
theorem rd_enc {v : Int} (h : isI v) (rest : List UInt8) : rd (enc v ++ rest) 0 0 = some (zz v, rest) := by
  have := rd_encF 10 (zz v) 0 0 rest rfl (.inl rfl) (by have := zz_lt h; omega)
  simp only [Nat.mul_zero, Nat.pow_zero, Nat.mul_one, Nat.zero_add] at this
  exact this
theorem num_enc {v : Int} (h : isI v) (rest : List UInt8) (b : Bool) : numV (enc v ++ rest, b) = v ∧ numR (enc v ++ rest, b) = (rest, b) := by
  have := num_some (s := (enc v ++ rest, b)) (rd_enc h rest)
  rw [unzz_zz] at this; exact this
/-- What is read of the first part of some bytes alone. -/
def Cut (R : List UInt8) (s : RS) : Prop := s = ([], true) ∨ (s.2 = false ∧ ∃ q, q < R.length ∧ s.1 = R.take q)
theorem cut_nil {s : RS} (h : Cut [] s) : s = ([], true) := by
  rcases h with h | ⟨_, q, hq, _⟩
  · exact h
  · simp at hq
theorem num_nil (b : Bool) : numV ([], b) = 0 ∧ numR ([], b) = ([], true) := num_none (s := ([], b)) rfl
theorem cut_num {v : Int} (hv : isI v) {R : List UInt8} {s : RS} (h : Cut (enc v ++ R) s) : (numR s = ([], true) ∧ numV s = 0) ∨ (numV s = v ∧ Cut R (numR s)) := by
  rcases h with h | ⟨hb, q, hq, hs⟩
  · subst h; exact .inl ⟨(num_nil true).2, (num_nil true).1⟩
  · obtain ⟨l, b⟩ := s
    simp only at hb hs
    subst hb hs
    by_cases h : q < (enc v).length
    · have : rd ((enc v ++ R).take q) 0 0 = none := by
        rw [List.take_append_of_le_length (by omega)]; exact rd_cut 10 (zz v) 0 0 q h
      have := num_none (s := ((enc v ++ R).take q, false)) this
      exact .inl ⟨this.2, this.1⟩
    · have e : (enc v ++ R).take q = enc v ++ R.take (q - (enc v).length) := by
        rw [List.take_append]; rw [List.take_of_length_le (by omega)]
      rw [e]
      have := num_enc hv (R.take (q - (enc v).length)) false
      refine .inr ⟨this.1, ?_⟩
      rw [this.2]
      refine .inr ⟨rfl, q - (enc v).length, ?_, rfl⟩
      rw [List.length_append] at hq; omega
theorem cut_numR {v : Int} (hv : isI v) {R : List UInt8} {s : RS} (h : Cut (enc v ++ R) s) : Cut R (numR s) := by
  rcases cut_num hv h with h | h
  · exact .inl h.1
  · exact h.2
theorem nums_enc {m : List Int} (hm : ∀ v ∈ m, isI v) (rest : List UInt8) (b : Bool) : ∀ k, k ≤ m.length → nums k (m.flatMap enc ++ rest, b) = (m.take k, ((m.drop k).flatMap enc ++ rest, b))
  | 0, _ => rfl
  | k + 1, hk => by
    have hk : k < m.length := hk
    simp only [nums]
    rw [nums_enc hm rest b k (by omega)]
    rw [flat_drop hk, List.append_assoc]
    obtain ⟨h1, h2⟩ := num_enc (hm _ (List.getElem_mem hk)) ((m.drop (k + 1)).flatMap enc ++ rest) b
    simp only [h1, h2]
    rw [List.take_succ_eq_append_getElem hk]
theorem nums_cut {m : List Int} (hm : ∀ v ∈ m, isI v) {R : List UInt8} {s : RS} (h : Cut (m.flatMap enc ++ R) s) : ∀ k, k ≤ m.length → Cut ((m.drop k).flatMap enc ++ R) (nums k s).2
  | 0, _ => h
  | k + 1, hk => by
    have hk : k < m.length := hk
    have ih := nums_cut hm h k (by omega)
    rw [flat_drop hk, List.append_assoc] at ih
    exact cut_numR (hm _ (List.getElem_mem hk)) ih
/-- A list, read again. -/
theorem lst_enc {m : List Int} (hm : ∀ v ∈ m, isI v) {most : Int} (hl : (m.length : Int) ≤ most) (hlm : m.length ≤ 9223372036854775807) (rest : List UInt8) : lstV (encL m ++ rest, false) most = m ∧ lstR (encL m ++ rest, false) most = (rest, false) := by
  have e : encL m ++ rest = enc m.length ++ (m.flatMap enc ++ rest) := by unfold encL; rw [List.append_assoc]
  obtain ⟨h1, h2⟩ := num_enc (isI_len hlm) (m.flatMap enc ++ rest) false
  have hc : cntV (encL m ++ rest, false) most = m.length := by unfold cntV; rw [e, h1, if_neg (by omega)]
  have hr : cntR (encL m ++ rest, false) most = (m.flatMap enc ++ rest, false) := by unfold cntR; rw [e, h1, h2, if_neg (by omega)]
  have hn := nums_enc hm rest false m.length (Nat.le_refl _)
  rw [List.take_length, List.drop_length] at hn
  constructor
  · unfold lstV; rw [hc, hr, Int.toNat_natCast, hn]; rfl
  · unfold lstR; rw [hc, hr, Int.toNat_natCast, hn]; rfl
theorem lst_cut {m : List Int} (hm : ∀ v ∈ m, isI v) {most : Int} (hl : (m.length : Int) ≤ most) (hlm : m.length ≤ 9223372036854775807) {s : RS} (h : Cut (encL m) s) : lstR s most = ([], true) := by
  unfold encL at h
  unfold lstR
  rcases cut_num (isI_len hlm) h with ⟨h1, h2⟩ | ⟨h1, h2⟩
  · have hc : cntV s most = 0 := by unfold cntV; rw [h2]; split <;> rfl
    have hr : cntR s most = ([], true) := by unfold cntR; rw [h1]; split <;> rfl
    rw [hc, hr]; rfl
  · have hc : cntV s most = m.length := by unfold cntV; rw [h1, if_neg (by omega)]
    have hr : cntR s most = numR s := by unfold cntR; rw [h1, if_neg (by omega)]
    rw [hc, hr, Int.toNat_natCast]
    have h3 : Cut (m.flatMap enc ++ []) (numR s) := by rw [List.append_nil]; exact h2
    have := nums_cut hm h3 m.length (Nat.le_refl _)
    rw [List.drop_length] at this
    exact cut_nil this
theorem flat_take {l : List Int} {k : Nat} (h : k < l.length) : (l.take (k + 1)).flatMap enc = (l.take k).flatMap enc ++ enc l[k] := by
  rw [List.take_succ_eq_append_getElem h, List.flatMap_append]; simp
theorem cut_okS {R : List UInt8} {s : RS} (h : Cut R s) : okS s := by
  rcases h with h | ⟨h, _⟩
  · subst h; intro _; rfl
  · intro h2; rw [h] at h2; cases h2
theorem cut_len {R : List UInt8} {s : RS} (h : Cut R s) : s.1.length ≤ R.length := by
  rcases h with h | ⟨h, q, h1, h2⟩
  · subst h; exact Nat.zero_le _
  · rw [h2, List.length_take]; omega
theorem num_drop {l : List Int} (hv : ∀ v ∈ l, isI v) {k : Nat} (h : k < l.length) (R : List UInt8) : numV ((l.drop k).flatMap enc ++ R, false) = l[k] ∧ numR ((l.drop k).flatMap enc ++ R, false) = ((l.drop (k + 1)).flatMap enc ++ R, false) := by
  rw [flat_drop h, List.append_assoc]; exact num_enc (hv _ (List.getElem_mem h)) _ false
theorem cut_drop {l : List Int} (hv : ∀ v ∈ l, isI v) {k : Nat} (h : k < l.length) {R : List UInt8} {s : RS} (hc : Cut ((l.drop k).flatMap enc ++ R) s) : Cut ((l.drop (k + 1)).flatMap enc ++ R) (numR s) := by
  rw [flat_drop h, List.append_assoc] at hc; exact cut_numR (hv _ (List.getElem_mem h)) hc
theorem plc_nat {v : Int} {n : Nat} (hn : 0 < n) : ∃ p : Nat, plcV v n = p ∧ p < n := by
  have := plcV_range (v := v) (n := (n : Int)) (by omega)
  exact ⟨(plcV v n).toNat, by omega, by omega⟩
/-! ### Forms -/
theorem rd_high : ∀ (p : List UInt8) (i u : Nat), (∀ c ∈ p, 128 ≤ c.toNat) → rd p i u = none
  | [], _, _, _ => rfl
  | c :: p, i, u, h => by
    simp only [rd]
    split
    · rfl
    · rw [if_pos (h c (by simp))]; exact rd_high p _ _ fun x hx => h x (by simp [hx])
theorem rd_high0 : ∀ (p : List UInt8) (i u : Nat), (∀ c ∈ p, 128 ≤ c.toNat) → (p ≠ [] ∨ 0 < i) → rd (p ++ [0]) i u = none
  | [], i, u, _, hi => by
    have : 0 < i := by rcases hi with h | h; exact absurd rfl h; exact h
    simp only [List.nil_append, rd]
    split
    · rfl
    · rw [if_neg (by decide), if_pos ⟨by decide, this⟩]
  | c :: p, i, u, h, _ => by
    simp only [List.cons_append, rd]
    split
    · rfl
    · rw [if_pos (h c (by simp))]; exact rd_high0 p _ _ (fun x hx => h x (by simp [hx])) (.inr (by omega))
theorem encF_last : ∀ (f u : Nat), u < 128 ^ (f + 1) → ∃ p c, encF f u = p ++ [c] ∧ (∀ x ∈ p, 128 ≤ x.toNat) ∧ c.toNat < 128
  | 0, u, h => ⟨[], UInt8.ofNat u, rfl, by simp, by rw [u8_nat (by omega)]; omega⟩
  | f + 1, u, h => by
    by_cases hu : u < 128
    · rw [encF_lt _ hu]; exact ⟨[], _, rfl, by simp, by rw [u8_nat (by omega)]; exact hu⟩
    · rw [encF_ge _ (by omega)]
      obtain ⟨p, c, h1, h2, h3⟩ := encF_last f (u / 128) (by rw [Nat.pow_succ] at h; omega)
      refine ⟨UInt8.ofNat (u % 128 + 128) :: p, c, by rw [h1]; rfl, ?_, h3⟩
      intro x hx
      rcases List.mem_cons.1 hx with rfl | hx
      · rw [u8_nat (by omega)]; omega
      · exact h2 x hx
theorem encF_size : ∀ (f u w : Nat), 2 ^ w ≤ u → u < 2 ^ (w + 1) → w < 7 * (f + 1) → (encF f u).length = (w + 7) / 7
  | 0, u, w, h1, h2, hw => by simp only [encF, List.length_singleton]; omega
  | f + 1, u, w, h1, h2, hw => by
    by_cases hu : u < 128
    · rw [encF_lt _ hu]
      have : w < 7 := by
        rcases Nat.lt_or_ge w 7 with h | h
        · exact h
        · have : 2 ^ 7 ≤ 2 ^ w := Nat.pow_le_pow_right (by omega) h
          omega
      simp only [List.length_singleton]; omega
    · rw [encF_ge _ (by omega)]
      have hw7 : 7 ≤ w := by
        rcases Nat.lt_or_ge w 7 with h | h
        · have : 2 ^ (w + 1) ≤ 2 ^ 7 := Nat.pow_le_pow_right (by omega) (by omega)
          omega
        · exact h
      obtain ⟨d, rfl⟩ : ∃ d, w = d + 7 := ⟨w - 7, by omega⟩
      have e1 : 2 ^ (d + 7) = 2 ^ d * 128 := by rw [Nat.pow_add]
      have e2 : 2 ^ (d + 7 + 1) = 2 ^ (d + 1) * 128 := by rw [show d + 7 + 1 = (d + 1) + 7 by omega, Nat.pow_add]
      have := encF_size f (u / 128) d (by omega) (by omega) (by omega)
      simp only [List.length_cons, this]; omega
theorem two_pow_lt {j : Nat} (h : j < 62) : 0 < 2 ^ j ∧ 2 ^ j ≤ 2305843009213693952 := ⟨Nat.two_pow_pos j, by
  have : 2 ^ j ≤ 2 ^ 61 := Nat.pow_le_pow_right (by omega) (by omega)
  omega⟩
theorem shl_one {j : Nat} (h : j < 62) : IntKind.i64.wrap ((1 : Int) * 2 ^ (min ((j : Int)).toNat IntKind.i64.bits)) = ((2 ^ j : Nat) : Int) := by
  have h1 : min ((j : Int)).toNat IntKind.i64.bits = j := by simp only [IntKind.bits]; omega
  have h2 := two_pow_lt h
  rw [h1, Int.one_mul]
  have h3 : ((2 : Int) ^ j) = ((2 ^ j : Nat) : Int) := by simp
  rw [h3]; exact wrap64 (by omega)
/-- The number of a form: its facts. -/
theorem form_pos {j k : Nat} (hj : j < 62) (hk : k < 2 ^ j) : isI ((2 ^ j + k : Nat) : Int) ∧ 2 ^ (j + 1) ≤ zz ((2 ^ j + k : Nat) : Int) ∧ zz ((2 ^ j + k : Nat) : Int) < 2 ^ (j + 2) := by
  have h2 := two_pow_lt hj
  have e1 : 2 ^ (j + 1) = 2 * 2 ^ j := by rw [Nat.pow_succ, Nat.mul_comm]
  have e2 : 2 ^ (j + 2) = 4 * 2 ^ j := by rw [Nat.pow_add, Nat.mul_comm]
  refine ⟨⟨by omega, by omega⟩, ?_, ?_⟩ <;> unfold zz <;> rw [if_neg (by omega)] <;> omega
theorem form_neg {j k : Nat} (hj : j < 62) (hk : k < 2 ^ j) : isI (-1 - ((2 ^ j + k : Nat) : Int)) ∧ 2 ^ (j + 1) ≤ zz (-1 - ((2 ^ j + k : Nat) : Int)) ∧ zz (-1 - ((2 ^ j + k : Nat) : Int)) < 2 ^ (j + 2) := by
  have h2 := two_pow_lt hj
  have e1 : 2 ^ (j + 1) = 2 * 2 ^ j := by rw [Nat.pow_succ, Nat.mul_comm]
  have e2 : 2 ^ (j + 2) = 4 * 2 ^ j := by rw [Nat.pow_add, Nat.mul_comm]
  refine ⟨⟨by omega, by omega⟩, ?_, ?_⟩ <;> unfold zz <;> rw [if_pos (by omega)] <;> omega
/-- A form's bytes: all but the last one from 128 on; with the last one so too it says nothing, and so with a 0 behind. -/
theorem form_bytes {n : Int} {j : Nat} (hj : j < 62) (h : isI n) (h1 : 2 ^ (j + 1) ≤ zz n) (h2 : zz n < 2 ^ (j + 2)) : (enc n).length = (j + 8) / 7 ∧ ∃ p c, enc n = p ++ [c] ∧ c.toNat < 128 ∧
    (∀ d : UInt8, 128 ≤ d.toNat → ∀ b, numV (p ++ [d], b) = 0 ∧ numR (p ++ [d], b) = ([], true) ∧ numV (p ++ [d] ++ [0], b) = 0 ∧ numR (p ++ [d] ++ [0], b) = ([], true)) := by
  have hz := zz_lt h
  refine ⟨by have := encF_size 10 (zz n) (j + 1) h1 h2 (by omega); unfold enc; rw [this], ?_⟩
  obtain ⟨p, c, e1, e2, e3⟩ := encF_last 10 (zz n) (Nat.lt_of_lt_of_le hz (by decide))
  refine ⟨p, c, e1, e3, fun d hd b => ?_⟩
  have hall : ∀ x ∈ p ++ [d], 128 ≤ x.toNat := by
    intro x hx
    rcases List.mem_append.1 hx with h | h
    · exact e2 x h
    · simp at h; subst h; exact hd
  have r1 := num_none (s := (p ++ [d], b)) (rd_high _ 0 0 hall)
  have r2 := num_none (s := (p ++ [d] ++ [0], b)) (rd_high0 _ 0 0 hall (.inl (by simp)))
  exact ⟨r1.1, r1.2, r2.1, r2.2⟩
theorem or_c {c : UInt8} (h : c.toNat < 128) : IntKind.u8.wrap ((BitVec.ofInt IntKind.u8.bits (c.toNat : Nat) ||| BitVec.ofInt IntKind.u8.bits 128).toNat : Int) = ((UInt8.ofNat (c.toNat + 128)).toNat : Nat) := by
  have := or_u8 c.toNat
  have e : (UInt8.ofNat c.toNat).toNat = c.toNat := u8_nat (by omega)
  rw [e, Nat.mod_eq_of_lt h] at this
  exact this
end Go.Pv
