/- Masters by numbers, their start. -/
import Derived.Test.YtogdmdlpnhbjkaaGreatC46
set_option linter.unusedSimpArgs false
set_option linter.unusedVariables false
namespace Go.Pv
set_option maxRecDepth 100000
set_option maxHeartbeats 1000000
def Ex {α : Type} (P : α → Prop) (D : Option α) : Prop := ∃ a, D = some a ∧ P a
theorem x_bnd {α β : Type} {P : β → Prop} {x : α} {f : α → Option β} (h : Ex P (f x)) : Ex P (bnd x f) := h
theorem x_as {β : Type} {P : β → Prop} {p : Prop} [Decidable p] {k : Option β} (hp : p) (h : Ex P k) : Ex P (asrt p k) := by unfold asrt; rw [if_pos hp]; exact h
theorem x_bi {α β : Type} {P : β → Prop} {Q : α → Prop} {x : Option α} {f : α → Option β} (h1 : Ex Q x) (h2 : ∀ a, Q a → Ex P (f a)) : Ex P (x.bind f) := by
  obtain ⟨a, rfl, ha⟩ := h1; exact h2 a ha
theorem x_p2 {α β γ : Type} {P : γ → Prop} {f : α → β → Option γ} {q : α × β} (h : Ex P (f q.1 q.2)) : Ex P (p2 f q) := h
theorem x_end {α : Type} {P : α → Prop} {a : α} (h : P a) : Ex P (some a) := ⟨a, rfl, h⟩
theorem tmod_n {a n : Int} (ha : 0 ≤ a) (h : 0 < n) : 0 ≤ a.tmod n ∧ a.tmod n < n := ⟨Int.tmod_nonneg n ha, Int.tmod_lt_of_pos a h⟩
theorem tdiv_n {a n : Int} (ha : 0 ≤ a) (h : 0 ≤ n) : 0 ≤ a.tdiv n ∧ a.tdiv n ≤ a := ⟨Int.tdiv_nonneg ha h, Int.tdiv_le_self n ha⟩
theorem w64_n {a : Int} (h : 0 ≤ a ∧ a ≤ 9223372036854775807) : w64 a = a := wrap64 (by omega)
theorem nx1 {k : Nat} (h : k ≤ 1000) : w64 ((k : Int) + 1) = ((k + 1 : Nat) : Int) := wrap64 (by omega)
theorem plc_x {v n : Int} (h : 0 < n ∧ n ≤ 4611686018427387904) : Ex (fun x => 0 ≤ x ∧ x < n) (d_law00_Place v n) := by
  have h2 : (v.tmod n) < n ∧ -n < v.tmod n := by
    have := Int.tmod_lt_of_pos v h.1
    have h3 := Int.lt_tmod_of_pos v h.1
    omega
  unfold d_law00_Place
  refine x_as (by omega) (x_bnd ?_)
  by_cases h0 : v.tmod n < 0
  · exact ⟨_, v_T h0 (v_bi (v_cT (v_w (by omega) rfl)) rfl), by omega⟩
  · exact ⟨_, v_F h0 (v_bi (v_cF rfl) rfl), by omega⟩
def Rw (N : Nat) (lo hi : Int) (l : List Int) : Prop := l.length = N ∧ ∀ x ∈ l, lo ≤ x ∧ x ≤ hi
theorem Rw.app {k : Nat} {lo hi x : Int} {l : List Int} (h : Rw k lo hi l) (hx : lo ≤ x ∧ x ≤ hi) : Rw (k + 1) lo hi (l ++ [x]) :=
  ⟨by rw [List.length_append, h.1]; rfl, fun y hy => by
    rcases List.mem_append.1 hy with h1 | h1
    · exact h.2 y h1
    · rw [List.mem_singleton.1 h1]; exact hx⟩
theorem Rw.len {k : Nat} {lo hi : Int} {l : List Int} (h : Rw k lo hi l) (hk : k ≤ 1000) : l.length ≤ 68719476736 := by rw [h.1]; omega
theorem mas0 {x3 : Int} (hx : 0 ≤ x3 ∧ x3 < 1073741824) (c : Nat) (hc : c ≤ 10) : ∀ (d k n : Nat) (acc : List Int), k + d = c → d < n → Rw k 0 100 acc → Ex (Rw c 0 100) (d_law00_Master_L0 x3 (c : Int) n (k : Int) acc)
  | _, _, 0, _, _, hn, _ => by omega
  | 0, k, n + 1, acc, hk, hn, ha => by
    rw [d_law00_Master_L0]
    obtain rfl : k = c := by omega
    exact ⟨acc, v_F (by omega) (v_cF rfl), ha⟩
  | d + 1, k, n + 1, acc, hk, hn, ha => by
    have h1 := tdiv_n hx.1 (show (0 : Int) ≤ 24 by decide)
    have h2 := tmod_n h1.1 (show (0 : Int) < 7 by decide)
    have e1 : w64 (x3.tdiv 24) = x3.tdiv 24 := w64_n (by omega)
    have e2 : w64 ((x3.tdiv 24).tmod 7 + (k : Int)) = (x3.tdiv 24).tmod 7 + (k : Int) := w64_n (by omega)
    have hr : Rw (k + 1) 0 100 (acc ++ [(x3.tdiv 24).tmod 7 + (k : Int)]) := ha.app (by omega)
    obtain ⟨r, g1, g2⟩ := mas0 hx c hc d (k + 1) n _ (by omega) (by omega) hr
    rw [d_law00_Master_L0]
    refine ⟨r, v_T (by omega) (v_cT (v_bnd ?_)), g2⟩
    rw [e1]
    refine v_bnd (v_bnd ?_)
    rw [e2]
    refine v_bnd (v_as (hr.len (by omega)) (v_bnd ?_))
    rw [nx1 (by omega)]; exact g1
theorem mas2 {x3 : Int} (hx : 0 ≤ x3 ∧ x3 < 1073741824) {y : Nat} (hy : y ≤ 10) (c : Nat) (hc : c ≤ 10) : ∀ (d k n : Nat) (a b : List Int), k + d = c → d < n → Rw k 1 4 a → Rw k 0 39 b → Ex (fun q : List Int × List Int => Rw c 1 4 q.1 ∧ Rw c 0 39 q.2) (d_law00_Master_L2 x3 (c : Int) (y : Int) n (k : Int) a b)
  | _, _, 0, _, _, _, hn, _, _ => by omega
  | 0, k, n + 1, a, b, hk, hn, ha, hb => by
    rw [d_law00_Master_L2]
    obtain rfl : k = c := by omega
    exact ⟨(a, b), v_F (by omega) (v_cF rfl), ha, hb⟩
  | d + 1, k, n + 1, a, b, hk, hn, ha, hb => by
    have a1 := tdiv_n hx.1 (show (0 : Int) ≤ 168 by decide)
    have a2 := tdiv_n hx.1 (show (0 : Int) ≤ 672 by decide)
    have a3 := tmod_n a2.1 (show (0 : Int) < 4 by decide)
    have a4 := tdiv_n hx.1 (show (0 : Int) ≤ 2688 by decide)
    have e1 : w64 (x3.tdiv 168) = x3.tdiv 168 := w64_n (by omega)
    have e2 : w64 (x3.tdiv 168 + (k : Int)) = x3.tdiv 168 + (k : Int) := w64_n (by omega)
    have e3 : w64 (x3.tdiv 672) = x3.tdiv 672 := w64_n (by omega)
    have hm : 0 ≤ (y : Int) * (x3.tdiv 672).tmod 4 ∧ (y : Int) * (x3.tdiv 672).tmod 4 ≤ 30 := by
      have : (x3.tdiv 672).tmod 4 = 0 ∨ (x3.tdiv 672).tmod 4 = 1 ∨ (x3.tdiv 672).tmod 4 = 2 ∨ (x3.tdiv 672).tmod 4 = 3 := by omega
      rcases this with h | h | h | h <;> rw [h] <;> omega
    have e4 : w64 ((y : Int) * (x3.tdiv 672).tmod 4) = (y : Int) * (x3.tdiv 672).tmod 4 := w64_n (by omega)
    have e5 : w64 (x3.tdiv 168 + (k : Int) + (y : Int) * (x3.tdiv 672).tmod 4) = x3.tdiv 168 + (k : Int) + (y : Int) * (x3.tdiv 672).tmod 4 := w64_n (by omega)
    have a5 := tmod_n (show 0 ≤ x3.tdiv 168 + (k : Int) + (y : Int) * (x3.tdiv 672).tmod 4 by omega) (show (0 : Int) < 4 by decide)
    have e6 : w64 (1 + (x3.tdiv 168 + (k : Int) + (y : Int) * (x3.tdiv 672).tmod 4).tmod 4) = 1 + (x3.tdiv 168 + (k : Int) + (y : Int) * (x3.tdiv 672).tmod 4).tmod 4 := w64_n (by omega)
    have e7 : w64 (x3.tdiv 2688) = x3.tdiv 2688 := w64_n (by omega)
    have e8 : w64 (7 * (k : Int)) = 7 * (k : Int) := w64_n (by omega)
    have e9 : w64 (x3.tdiv 2688 + 7 * (k : Int)) = x3.tdiv 2688 + 7 * (k : Int) := w64_n (by omega)
    have e10 : w64 (x3.tdiv 2688 + 7 * (k : Int) + (y : Int)) = x3.tdiv 2688 + 7 * (k : Int) + (y : Int) := w64_n (by omega)
    have a6 := tmod_n (show 0 ≤ x3.tdiv 2688 + 7 * (k : Int) + (y : Int) by omega) (show (0 : Int) < 40 by decide)
    have ha' : Rw (k + 1) 1 4 (a ++ [1 + (x3.tdiv 168 + (k : Int) + (y : Int) * (x3.tdiv 672).tmod 4).tmod 4]) := ha.app (by omega)
    have hb' : Rw (k + 1) 0 39 (b ++ [(x3.tdiv 2688 + 7 * (k : Int) + (y : Int)).tmod 40]) := hb.app (by omega)
    obtain ⟨q, g1, g2⟩ := mas2 hx hy c hc d (k + 1) n _ _ (by omega) (by omega) ha' hb'
    refine ⟨q, ?_, g2⟩
    rw [d_law00_Master_L2]
    refine v_T (by omega) (v_cT (v_bnd ?_)); rw [e1]
    refine v_bnd ?_; rw [e2]
    refine v_bnd ?_; rw [e3]
    refine v_bnd (v_bnd ?_); rw [e4]
    refine v_bnd ?_; rw [e5]
    refine v_bnd (v_bnd ?_); rw [e6]
    refine v_bnd (v_as (ha'.len (by omega)) (v_bnd ?_)); rw [e7]
    refine v_bnd ?_; rw [e8]
    refine v_bnd ?_; rw [e9]
    refine v_bnd ?_; rw [e10]
    refine v_bnd (v_bnd (v_as (hb'.len (by omega)) (v_bnd ?_)))
    rw [nx1 (by omega)]; exact g1
def Rws (E N : Nat) (lo hi : Int) (l : List (List Int)) : Prop := l.length = E ∧ ∀ r ∈ l, Rw N lo hi r
theorem Rws.app {k N : Nat} {lo hi : Int} {x : List Int} {l : List (List Int)} (h : Rws k N lo hi l) (hx : Rw N lo hi x) : Rws (k + 1) N lo hi (l ++ [x]) :=
  ⟨by rw [List.length_append, h.1]; rfl, fun y hy => by
    rcases List.mem_append.1 hy with h1 | h1
    · exact h.2 y h1
    · rw [List.mem_singleton.1 h1]; exact hx⟩
theorem mas1 {x3 : Int} (hx : 0 ≤ x3 ∧ x3 < 1073741824) (e c : Nat) (he : e ≤ 10) (hc : c ≤ 10) : ∀ (d k n : Nat) (a b : List (List Int)), k + d = e → d + 20 < n → Rws k c 1 4 a → Rws k c 0 39 b → Ex (fun q : List (List Int) × List (List Int) => Rws e c 1 4 q.1 ∧ Rws e c 0 39 q.2) (d_law00_Master_L1 x3 (e : Int) (c : Int) n (k : Int) a b)
  | _, _, 0, _, _, _, hn, _, _ => by omega
  | 0, k, n + 1, a, b, hk, hn, ha, hb => by
    rw [d_law00_Master_L1]
    obtain rfl : k = e := by omega
    exact ⟨(a, b), v_F (by omega) (v_cF rfl), ha, hb⟩
  | d + 1, k, n + 1, a, b, hk, hn, ha, hb => by
    obtain ⟨q, h1, h2, h3⟩ := mas2 hx (y := k) (by omega) c hc c 0 n [] [] (Nat.zero_add _) (by omega) ⟨rfl, fun x h => by cases h⟩ ⟨rfl, fun x h => by cases h⟩
    have ha' := ha.app h2
    have hb' := hb.app h3
    obtain ⟨r, g1, g2⟩ := mas1 hx e c he hc d (k + 1) n _ _ (by omega) (by omega) ha' hb'
    refine ⟨r, ?_, g2⟩
    rw [d_law00_Master_L1]
    refine v_T (by omega) (v_cT (v_bi (a := (a ++ [q.1], b ++ [q.2])) (v_bi h1 (v_bnd (v_as (by rw [ha'.1]; omega) (v_bnd (v_as (by rw [hb'.1]; omega) rfl))))) ?_))
    refine v_p2 (v_bnd ?_)
    rw [nx1 (by omega)]; exact g1
structure MOk (m : GMaster) (E N : Nat) : Prop where
  e : m.Entities = (E : Int)
  e2 : 2 ≤ E ∧ E ≤ 3
  n2 : 2 ≤ N ∧ N ≤ 4
  p : 1 ≤ m.Periods ∧ m.Periods ≤ 4
  w : Rw N 0 100 m.Weights
  ms : Rws E N 1 4 m.Methods
  cs : Rws E N 0 39 m.Costs
theorem mas (v : Int) {n : Nat} (hn : 50 ≤ n) : Ex (fun m => ∃ E N, MOk m E N) (d_law00_Master n v) := by
  unfold d_law00_Master
  refine x_bi (plc_x (by decide)) (fun x hx => ?_)
  have h2 := tmod_n hx.1 (show (0 : Int) < 2 by decide)
  have d2 := tdiv_n hx.1 (show (0 : Int) ≤ 2 by decide)
  have d6 := tdiv_n hx.1 (show (0 : Int) ≤ 6 by decide)
  have m6 := tmod_n d6.1 (show (0 : Int) < 4 by decide)
  have w2 : w64 (x.tdiv 2) = x.tdiv 2 := w64_n (by omega)
  have w6 : w64 (x.tdiv 6) = x.tdiv 6 := w64_n (by omega)
  have w7 : w64 (1 + (x.tdiv 6).tmod 4) = 1 + (x.tdiv 6).tmod 4 := w64_n (by omega)
  have h3 := tmod_n d2.1 (show (0 : Int) < 3 by decide)
  have w3 : w64 (2 + x.tmod 2) = ((2 + (x.tmod 2).toNat : Nat) : Int) := by rw [w64_n (by omega)]; omega
  have w4 : w64 (2 + (x.tdiv 2).tmod 3) = ((2 + ((x.tdiv 2).tmod 3).toNat : Nat) : Int) := by rw [w64_n (by omega)]; omega
  refine x_bnd (x_bnd (x_bnd (x_bnd (x_bnd (x_bnd (x_bnd (x_bnd ?_)))))))
  rw [w2, w3, w4, w6, w7]
  have e2 : (x.tmod 2).toNat ≤ 1 := by omega
  have e3 : ((x.tdiv 2).tmod 3).toNat ≤ 2 := by omega
  refine x_bi (mas0 hx (2 + ((x.tdiv 2).tmod 3).toNat) (by omega) _ 0 n [] (Nat.zero_add _) (by omega) ⟨rfl, fun x h => by cases h⟩) (fun r hr => ?_)
  refine x_bi (mas1 hx (2 + (x.tmod 2).toNat) (2 + ((x.tdiv 2).tmod 3).toNat) (by omega) (by omega) _ 0 n [] [] (Nat.zero_add _) (by omega) ⟨rfl, fun x h => by cases h⟩ ⟨rfl, fun x h => by cases h⟩) (fun q hq => ?_)
  exact x_p2 (x_end ⟨_, _, rfl, by omega, by omega, by dsimp only; omega, hr, hq.1, hq.2⟩)
def ent0 (w : Nat) : GEnt := ⟨1, false, List.replicate (w * 2) zs, List.replicate 17 0, List.replicate w ⟨0, 0, 0, 0, 0, 0, 0, 0, 0, 0, 0⟩, List.replicate w (-1), List.replicate w 0, []⟩
theorem allL {l : List Int} {lo hi lo' hi' : Int} {N : Nat} (h : Rw N lo hi l) (hl : lo' ≤ lo) (hh : hi ≤ hi') (hN : N ≤ 1000) : ∀ (d k n : Nat), k + d = N → d < n → d_ref04_all_L0 l (N : Int) lo' hi' n (k : Int) = some ()
  | _, _, 0, _, hn => by omega
  | 0, k, n + 1, hk, hn => by rw [d_ref04_all_L0]; exact v_F (by omega) (v_cF rfl)
  | d + 1, k, n + 1, hk, hn => by
    have hkl : k < l.length := by rw [h.1]; omega
    have hx : l[((k : Int)).toNat]? = some l[k] := by simp [hkl]
    have h0 := h.2 l[k] (List.getElem_mem hkl)
    rw [d_ref04_all_L0]
    refine v_T (by omega) (v_cT (v_bi (a := false) (v_ix (by omega) hx (v_F (by omega) (v_cF (v_ix (by omega) hx (v_F (by omega) rfl))))) (v_as rfl (v_bnd ?_))))
    rw [nx1 (by omega)]; exact allL h hl hh hN d (k + 1) n (by omega) (by omega)
theorem allV {l : List Int} {lo hi lo' hi' : Int} {N : Nat} (h : Rw N lo hi l) (hl : lo' ≤ lo) (hh : hi ≤ hi') (hN : N ≤ 1000) {n : Nat} (hn : N < n) : d_ref04_all n l (N : Int) lo' hi' = some true := by
  unfold d_ref04_all
  exact v_F (by rw [h.1]; simp) (v_as rfl (v_bi (allL h hl hh hN N 0 n (Nat.zero_add _) hn) rfl))
theorem chk0 {m : GMaster} {E N : Nat} (h : MOk m E N) : ∀ (d k n : Nat), k + d = E → d + 10 < n → d_ref04_Check_L0 m n (k : Int) = some ()
  | _, _, 0, _, hn => by omega
  | 0, k, n + 1, hk, hn => by
    have := h.e
    rw [d_ref04_Check_L0]; exact v_F (by omega) (v_cF rfl)
  | d + 1, k, n + 1, hk, hn => by
    have he := h.e; have h2 := h.n2; have h3 := h.e2
    have hkm : k < m.Methods.length := by rw [h.ms.1]; omega
    have hkc : k < m.Costs.length := by rw [h.cs.1]; omega
    have hx : m.Methods[((k : Int)).toNat]? = some m.Methods[k] := by simp [hkm]
    have hy : m.Costs[((k : Int)).toNat]? = some m.Costs[k] := by simp [hkc]
    have a1 := allV (n := n) (h.ms.2 _ (List.getElem_mem hkm)) (lo' := 1) (hi' := 4) (by omega) (by omega) (by omega) (by omega)
    have a2 := allV (n := n) (h.cs.2 _ (List.getElem_mem hkc)) (lo' := 0) (hi' := 1073741824) (by omega) (by omega) (by omega) (by omega)
    have hw := h.w.1
    rw [d_ref04_Check_L0]
    refine v_T (by omega) (v_cT (v_bi (a := false) ?_ (v_as rfl (v_bnd ?_))))
    · rw [hw]
      exact v_ix (by omega) hx (v_bi a1 (v_nT (v_cF (v_ix (by omega) hy (v_bi a2 (v_nT rfl))))))
    · rw [nx1 (by omega)]; exact chk0 h d (k + 1) n (by omega) (by omega)
theorem chkV {m : GMaster} {E N : Nat} (h : MOk m E N) {n : Nat} (hn : 30 < n) : d_ref04_Check n m = some true := by
  have he := h.e; have h2 := h.n2; have h3 := h.e2; have hp := h.p; have hw := h.w.1
  have a1 := allV (n := n) h.w (lo' := 0) (hi' := 1073741824) (by omega) (by omega) (by omega) (by omega)
  unfold d_ref04_Check
  rw [hw, h.ms.1, h.cs.1]
  exact v_bi (a := false) (v_F (by omega) (v_cF (v_F (by omega) (v_cF (v_F (by omega) (v_cF (v_F (by omega) (v_cF (v_F (by omega) (v_cF (v_F (by omega) (v_cF (v_bi a1 (v_nT (v_cF (v_F (by omega) (v_cF (v_F (by omega) rfl)))))))))))))))))) (v_as rfl (v_bi (chk0 h E 0 n (Nat.zero_add _) (by omega)) rfl))
def half (w k : Nat) : List Int := List.replicate k (-1) ++ List.replicate (w - k) 0
theorem half_get {w k : Nat} (h : k < w) : (half w k)[k]? = some 0 := by
  unfold half
  rw [List.getElem?_append_right (by rw [List.length_replicate]; omega), List.length_replicate, Nat.sub_self, List.getElem?_replicate]; simp only [show 0 < w - k by omega, if_true]
theorem half_set {w k : Nat} (h : k < w) : (half w k).set k (-1) = half w (k + 1) := by
  unfold half
  rw [List.set_append_right _ _ (by rw [List.length_replicate]; omega), List.length_replicate, Nat.sub_self]
  obtain ⟨j, hj⟩ : ∃ j, w - k = j + 1 := ⟨w - k - 1, by omega⟩
  have : w - (k + 1) = j := by omega
  rw [hj, this, List.replicate_succ, List.set_cons_zero, List.replicate_succ' (n := k), List.append_assoc]; rfl
theorem st1 {m : GMaster} (hw : m.Weights.length ≤ 20) : ∀ (d k n : Nat), k + d = m.Weights.length → d < n → d_ref04_Start_L1 m n (k : Int) (half m.Weights.length k) = some (List.replicate m.Weights.length (-1))
  | _, _, 0, _, hn => by omega
  | 0, k, n + 1, hk, hn => by
    obtain rfl : k = m.Weights.length := by omega
    rw [d_ref04_Start_L1]
    refine v_F (by omega) (v_cF ?_)
    unfold half; rw [Nat.sub_self]; simp
  | d + 1, k, n + 1, hk, hn => by
    rw [d_ref04_Start_L1]
    refine v_T (by omega) (v_cT (v_ix (by omega) (by rw [Int.toNat_natCast]; exact half_get (by omega)) (v_bnd (v_bnd ?_))))
    rw [Int.toNat_natCast, half_set (by omega), nx1 (by omega)]
    exact st1 hw d (k + 1) n (by omega) (by omega)
theorem st0 {m : GMaster} {E N : Nat} (h : MOk m E N) : ∀ (d k n : Nat), k + d = E → d + 20 < n → d_ref04_Start_L0 m n (k : Int) (List.replicate k (ent0 N)) = some (List.replicate E (ent0 N))
  | _, _, 0, _, hn => by omega
  | 0, k, n + 1, hk, hn => by
    obtain rfl : k = E := by omega
    have := h.e
    rw [d_ref04_Start_L0]; exact v_F (by omega) (v_cF rfl)
  | d + 1, k, n + 1, hk, hn => by
    have he := h.e; have h2 := h.n2; have h3 := h.e2; have hw := h.w.1
    have hs := st1 (m := m) (by omega) m.Weights.length 0 n (Nat.zero_add _) (by omega)
    have hd : w64 ((N : Int) * 2) = ((N * 2 : Nat) : Int) := by rw [w64_n (by omega)]; omega
    rw [d_ref04_Start_L0]
    rw [hw] at hs ⊢
    refine v_T (by omega) (v_cT (v_bi (a := List.replicate k (ent0 N) ++ [ent0 N]) ?_ (v_bnd ?_)))
    · refine v_bnd ?_
      rw [hd]
      refine v_as (by omega) (v_bnd (v_as (by decide) (v_bnd (v_as (by omega) (v_bnd (v_as (by omega) (v_bnd (v_as (by omega) (v_bnd (v_bi hs (v_bnd (v_as ?_ rfl))))))))))))
      rw [List.length_append, List.length_replicate]; simp; omega
    · rw [nx1 (by omega), ← List.replicate_succ']; exact st0 h d (k + 1) n (by omega) (by omega)
theorem startV {m : GMaster} {E N : Nat} (h : MOk m E N) {n : Nat} (hn : 50 < n) : d_ref04_Start n m = some (⟨m, List.replicate E (ent0 N), [], [], [], 0⟩, 0) := by
  have h3 := h.e2
  unfold d_ref04_Start
  exact v_bi (chkV h (by omega)) (v_nT (v_as rfl (v_bi (st0 h E 0 n (Nat.zero_add _) (by omega)) rfl)))
end Go.Pv
