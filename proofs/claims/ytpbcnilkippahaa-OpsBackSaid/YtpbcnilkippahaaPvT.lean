import Derived.Test.YtpbcnilkippahaaPvP
import Derived.WalkKit
import Derived.ProofKit
import Derived.OpenShut
import Derived.ShutString
import Derived.ChangeOld
import Derived.Below
import Derived.Lib.ConvBytes
set_option linter.unusedSimpArgs false
set_option linter.unusedVariables false
namespace Go.Pv
open Go.ChangeShapes Go.WideShapes Go.ChangeAt Go.RowKit
def RowOf (w : World) (a : Option Addr) (len cap : Nat) (zs : List Int) : Prop :=
  (a = none ∧ len = 0 ∧ cap = 0 ∧ zs = []) ∨
  ∃ b off, a = some ⟨b, off, none⟩ ∧ b < w.heap.size ∧ len ≤ cap ∧ cap ≤ maxLen ∧ zs.length = cap ∧ (∀ i, i < zs.length → w.cell? ((⟨b, off, none⟩ : Addr).add i) = some (.int .i64 (zs.getD i 0))) ∧ ∀ n ∈ zs, (Lit.int .i64 n).wf = true
theorem row_of {H : Type} {enc : TypeId × Value → H} {P : Program} {w : World} {base b0 : Nat} {held : Bool} {t e : TypeId} {v : Value} {d : DataW H} {ps : List MemPlace} (ht : P.underlying t = some (.slice e)) (he : P.underlying e = some (.int .i64)) (hc : P.cellsOf e = 1)
    (hval : Value.okWide P w .any b0 t v) (h : DataW.Trod enc P w base (fun _ => true) held t v d ps) : ∃ a len cap zs, v = .slice a len cap ∧ RowOf w a len cap zs := by
  obtain ⟨a, len, cap, rfl⟩ := okWide_slice ht hval
  obtain ⟨fuel, hf⟩ := h
  rcases open_ints ht he hc hf with ⟨hcs, _⟩ | ⟨x, l, c, zs, hcs, _, hl, hm, hz, _, hcell, hwz⟩
  · simp [Value.cells] at hcs
    obtain ⟨rfl, rfl, rfl⟩ := hcs
    exact ⟨none, 0, 0, [], rfl, .inl ⟨rfl, rfl, rfl, rfl⟩⟩
  · simp [Value.cells] at hcs
    obtain ⟨rfl, rfl, rfl⟩ := hcs
    have hh : w.has P .any b0 x e cap := by
      simp only [Value.okWide, ht, Cell.okWide, Cell.ok] at hval
      first | exact hval.2.2 | (split at hval <;> simp_all)
    obtain ⟨_, hsp, row, cells, hsh, _⟩ := hh
    have hb : x.block < w.heap.size := by
      unfold World.shape? at hsh
      cases hg : w.heap[x.block]? with
      | none => rw [hg] at hsh; cases hsh
      | some o => exact (Array.getElem?_eq_some_iff.1 hg).1
    obtain ⟨b, off, spot⟩ := x
    have hsp : spot = none := hsp
    subst hsp
    exact ⟨_, _, _, zs, rfl, .inr ⟨b, off, rfl, hb, hl, hm, by simpa using hz, hcell, hwz⟩⟩
def s0 (w : World) : Sit := ⟨w, fun b => b < w.heap.size, fun _ => none, fun _ => False⟩
theorem vr_row {w : World} {a : Option Addr} {len cap : Nat} {zs : List Int} (h : RowOf w a len cap zs) : VR (s0 w) (ints (zs.take len)) (.slice a len cap) := by
  rcases h with ⟨rfl, rfl, rfl, rfl⟩ | ⟨b, off, rfl, hb, hl, hm, hz, hcell, hwz⟩
  · exact .nil 1
  · have hlen : ((zs.take len).map fun n => [int n]).length = len := by rw [List.length_map, List.length_take]; omega
    have key : ∀ (i : Nat) (r : List AV) (j : Nat) (x : AV), ((zs.take len).map fun n => [int n])[i]? = some r → r[j]? = some x → j = 0 ∧ x = int (zs.getD i 0) ∧ i < zs.length := by
      intro i r j x h1 h2
      rw [List.getElem?_map] at h1
      cases hg : (zs.take len)[i]? with
      | none => rw [hg] at h1; cases h1
      | some n =>
        rw [hg] at h1; simp only [Option.map_some, Option.some.injEq] at h1
        subst h1
        have hi := lt_of hg
        rw [List.length_take] at hi
        rw [List.getElem?_take] at hg
        have hn : zs.getD i 0 = n := by
          split at hg
          · simp [hg]
          · cases hg
        cases j with
        | zero => simp at h2; exact ⟨rfl, by rw [← h2, hn], by omega⟩
        | succ j => simp at h2
    have := VR.list (s := s0 w) (sz := 1) (xs := (zs.take len).map fun n => [int n]) (b := b) (off := off) (cap := cap) (fun i _ => .int .i64 (zs.getD i 0)) hb (by omega) hm
      (fun i r h1 => by
        rw [List.getElem?_map] at h1
        cases hg : (zs.take len)[i]? with
        | none => rw [hg] at h1; cases h1
        | some n => rw [hg] at h1; simp only [Option.map_some, Option.some.injEq] at h1; subst h1; rfl)
      (fun i r j x h1 h2 => by
        obtain ⟨rfl, rfl, hi⟩ := key i r j x h1 h2
        have := hcell i hi
        rw [addr_add] at this
        show w.cell? _ = _
        rw [Nat.mul_one, Nat.add_zero, this])
      (fun i r j x h1 h2 => by obtain ⟨rfl, rfl, hi⟩ := key i r j x h1 h2; exact .sc _)
    rw [hlen] at this
    exact this
inductive VL (s : Sit) : List AV → List Value → Prop
  | nil : VL s [] []
  | cons {x : AV} {v : Value} {xs : List AV} {vs : List Value} (h : VR s x v) (hs : VL s xs vs) : VL s (x :: xs) (v :: vs)
theorem VL.len {s : Sit} {xs : List AV} {vs : List Value} (h : VL s xs vs) : xs.length = vs.length := by
  induction h with
  | nil => rfl
  | cons _ _ ih => simp [ih]
theorem VL.get {s : Sit} {xs : List AV} {vs : List Value} (h : VL s xs vs) : ∀ (i : Nat) (x : AV) (v : Value), xs[i]? = some x → vs[i]? = some v → VR s x v := by
  induction h with
  | nil => intro i x v h1 _; simp at h1
  | cons ha _ ih =>
    intro i x v h1 h2
    cases i with
    | zero => simp at h1 h2; subst h1 h2; exact ha
    | succ i => exact ih i x v (by simpa using h1) (by simpa using h2)
theorem allR_of {s : Sit} {xs : List AV} {vs : List Value} (h : VL s xs vs) : AllR s xs vs.toArray :=
  ⟨by simp [h.len], fun i x v h1 h2 => h.get i x v h1 (by simpa using h2)⟩
end Go.Pv
set_option linter.unusedSimpArgs false
set_option linter.unusedVariables false
namespace Go.Pv
theorem u8_nat {n : Nat} (h : n < 256) : (UInt8.ofNat n).toNat = n := by simp; omega
theorem pow_succ7 (i : Nat) : 2 ^ (7 * (i + 1)) = 128 * 2 ^ (7 * i) := by rw [Nat.mul_add, Nat.pow_add, Nat.mul_comm]
theorem rd_encF : ∀ (f u i acc : Nat) (rest : List UInt8), i + f = 10 → (i = 0 ∨ 0 < u) → u * 2 ^ (7 * i) < 2 ^ 64 → rd (encF f u ++ rest) i acc = some (acc + u * 2 ^ (7 * i), rest)
  | 0, u, i, acc, rest, hi, hu, hb => by
    have : i = 10 := by omega
    subst this
    have : 0 < u := by omega
    have : 1 * 2 ^ (7 * 10) ≤ u * 2 ^ (7 * 10) := Nat.mul_le_mul_right _ (by omega)
    omega
  | f + 1, u, i, acc, rest, hi, hu, hb => by
    have hu9 : i = 9 → u ≤ 1 := by
      intro h; subst h
      rcases Nat.lt_or_ge 1 u with h2 | h2
      · have : 2 * 2 ^ (7 * 9) ≤ u * 2 ^ (7 * 9) := Nat.mul_le_mul_right _ (by omega)
        omega
      · exact h2
    by_cases h : u < 128
    · rw [encF_lt _ h]
      have hc : (UInt8.ofNat u).toNat = u := u8_nat (by omega)
      simp only [List.singleton_append, rd, hc]
      rw [if_neg (by omega), if_neg (by omega), if_neg (by omega), Nat.mod_eq_of_lt h]
    · rw [encF_ge _ (by omega)]
      have hc : (UInt8.ofNat (u % 128 + 128)).toNat = u % 128 + 128 := u8_nat (by omega)
      simp only [List.cons_append, rd, hc]
      rw [if_neg (by omega), if_pos (by omega)]
      have h7 := pow_succ7 i
      have hsplit : u * 2 ^ (7 * i) = u % 128 * 2 ^ (7 * i) + u / 128 * 2 ^ (7 * (i + 1)) := by
        rw [h7, ← Nat.mul_assoc, ← Nat.add_mul]; congr 1; omega
      have hmod : (u % 128 + 128) % 128 = u % 128 := by omega
      rw [rd_encF f (u / 128) (i + 1) _ rest (by omega) (by omega) (by omega), hmod, hsplit]
      congr 2; omega
theorem rd_cut : ∀ (f u i acc q : Nat), q < (encF f u).length → rd ((encF f u).take q) i acc = none
  | 0, u, i, acc, q, hq => by
    have : q = 0 := by simp [encF] at hq; omega
    subst this; rfl
  | f + 1, u, i, acc, q, hq => by
    by_cases h : u < 128
    · rw [encF_lt _ h] at hq ⊢
      have : q = 0 := by simp at hq; omega
      subst this; rfl
    · rw [encF_ge _ (by omega)] at hq ⊢
      cases q with
      | zero => rfl
      | succ q =>
        have hc : (UInt8.ofNat (u % 128 + 128)).toNat = u % 128 + 128 := u8_nat (by omega)
        simp only [List.take_succ_cons, rd, hc]
        split
        · rfl
        · rw [if_pos (by omega)]
          exact rd_cut f (u / 128) (i + 1) _ q (by simp at hq; exact hq)
theorem unzz_zz (v : Int) : unzz (zz v) = v := by
  rw [unzz_eq]; unfold zz; split <;> split <;> omega
theorem rd_enc {v : Int} (h : isI v) (rest : List UInt8) : rd (enc v ++ rest) 0 0 = some (zz v, rest) := by
  have := rd_encF 10 (zz v) 0 0 rest rfl (.inl rfl) (by have := zz_lt h; omega)
  simp only [Nat.mul_zero, Nat.pow_zero, Nat.mul_one, Nat.zero_add] at this
  exact this
theorem num_enc {v : Int} (h : isI v) (rest : List UInt8) (b : Bool) : numV (enc v ++ rest, b) = v ∧ numR (enc v ++ rest, b) = (rest, b) := by
  have := num_some (s := (enc v ++ rest, b)) (rd_enc h rest)
  rw [unzz_zz] at this; exact this
def Cut (R : List UInt8) (s : RS) : Prop := s = ([], true) ∨ (s.2 = false ∧ ∃ q, q < R.length ∧ s.1 = R.take q)
theorem cut_nil {s : RS} (h : Cut [] s) : s = ([], true) := by
  rcases h with h | ⟨_, q, hq, _⟩
  · exact h
  · simp at hq
theorem num_nil (b : Bool) : numV ([], b) = 0 ∧ numR ([], b) = ([], true) := num_none (s := ([], b)) rfl
theorem cut_num {v : Int} (hv : isI v) {R : List UInt8} {s : RS} (h : Cut (enc v ++ R) s) : (numR s = ([], true) ∧ numV s = 0) ∨ (numV s = v ∧ Cut R (numR s)) := by
  rcases h with h | ⟨hb, q, hq, hs⟩
  · subst h; exact .inl ⟨(num_nil true).2, (num_nil true).1⟩
  · obtain ⟨l, b⟩ := s
    simp only at hb hs
    subst hb hs
    by_cases h : q < (enc v).length
    · have : rd ((enc v ++ R).take q) 0 0 = none := by
        rw [List.take_append_of_le_length (by omega)]; exact rd_cut 10 (zz v) 0 0 q h
      have := num_none (s := ((enc v ++ R).take q, false)) this
      exact .inl ⟨this.2, this.1⟩
    · have e : (enc v ++ R).take q = enc v ++ R.take (q - (enc v).length) := by
        rw [List.take_append]; rw [List.take_of_length_le (by omega)]
      rw [e]
      have := num_enc hv (R.take (q - (enc v).length)) false
      refine .inr ⟨this.1, ?_⟩
      rw [this.2]
      refine .inr ⟨rfl, q - (enc v).length, ?_, rfl⟩
      rw [List.length_append] at hq; omega
theorem cut_numR {v : Int} (hv : isI v) {R : List UInt8} {s : RS} (h : Cut (enc v ++ R) s) : Cut R (numR s) := by
  rcases cut_num hv h with h | h
  · exact .inl h.1
  · exact h.2
theorem nums_enc {m : List Int} (hm : ∀ v ∈ m, isI v) (rest : List UInt8) (b : Bool) : ∀ k, k ≤ m.length → nums k (m.flatMap enc ++ rest, b) = (m.take k, ((m.drop k).flatMap enc ++ rest, b))
  | 0, _ => rfl
  | k + 1, hk => by
    have hk : k < m.length := hk
    simp only [nums]
    rw [nums_enc hm rest b k (by omega)]
    rw [flat_drop hk, List.append_assoc]
    obtain ⟨h1, h2⟩ := num_enc (hm _ (List.getElem_mem hk)) ((m.drop (k + 1)).flatMap enc ++ rest) b
    simp only [h1, h2]
    rw [List.take_succ_eq_append_getElem hk]
theorem nums_cut {m : List Int} (hm : ∀ v ∈ m, isI v) {R : List UInt8} {s : RS} (h : Cut (m.flatMap enc ++ R) s) : ∀ k, k ≤ m.length → Cut ((m.drop k).flatMap enc ++ R) (nums k s).2
  | 0, _ => h
  | k + 1, hk => by
    have hk : k < m.length := hk
    have ih := nums_cut hm h k (by omega)
    rw [flat_drop hk, List.append_assoc] at ih
    exact cut_numR (hm _ (List.getElem_mem hk)) ih
theorem lst_enc {m : List Int} (hm : ∀ v ∈ m, isI v) {most : Int} (hl : (m.length : Int) ≤ most) (hlm : m.length ≤ 9223372036854775807) (rest : List UInt8) : lstV (encL m ++ rest, false) most = m ∧ lstR (encL m ++ rest, false) most = (rest, false) := by
  have e : encL m ++ rest = enc m.length ++ (m.flatMap enc ++ rest) := by unfold encL; rw [List.append_assoc]
  obtain ⟨h1, h2⟩ := num_enc (isI_len hlm) (m.flatMap enc ++ rest) false
  have hc : cntV (encL m ++ rest, false) most = m.length := by unfold cntV; rw [e, h1, if_neg (by omega)]
  have hr : cntR (encL m ++ rest, false) most = (m.flatMap enc ++ rest, false) := by unfold cntR; rw [e, h1, h2, if_neg (by omega)]
  have hn := nums_enc hm rest false m.length (Nat.le_refl _)
  rw [List.take_length, List.drop_length] at hn
  constructor
  · unfold lstV; rw [hc, hr, Int.toNat_natCast, hn]; rfl
  · unfold lstR; rw [hc, hr, Int.toNat_natCast, hn]; rfl
end Go.Pv
set_option linter.unusedSimpArgs false
set_option linter.unusedVariables false
namespace Go.Pv
end Go.Pv
set_option linter.unusedSimpArgs false
set_option linter.unusedVariables false
namespace Go.Pv
end Go.Pv
