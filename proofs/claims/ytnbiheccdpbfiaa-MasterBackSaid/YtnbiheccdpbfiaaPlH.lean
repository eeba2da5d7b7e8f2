/- Plain laws: masters by numbers, few masters, the example. -/
import Derived.Test.YtnbiheccdpbfiaaPlG
set_option linter.unusedSimpArgs false
set_option linter.unusedVariables false
set_option maxRecDepth 100000
namespace Go.Pv
theorem awake_v : d_law04_awake 8000 = some true := rfl
theorem tmR {a c : Int} (h : 0 ≤ a) (hc : 0 < c) : 0 ≤ a.tmod c ∧ a.tmod c < c := ⟨Int.tmod_nonneg _ h, Int.tmod_lt_of_pos _ hc⟩
theorem tqR {a c : Int} (h : 0 ≤ a) (hc : 0 < c) : 0 ≤ a.tdiv c ∧ a.tdiv c ≤ a := by
  rw [Int.tdiv_eq_ediv_of_nonneg h]
  exact ⟨Int.ediv_nonneg h (Int.le_of_lt hc), Int.ediv_le_self _ h⟩
theorem place_v (a : Int) {c : Int} (hc : 0 < c) (hc2 : c ≤ 4611686018427387904) : ∃ p, d_law00_Place a c = some p ∧ 0 ≤ p ∧ p < c := by
  simp only [d_law00_Place, bnd_v]
  rw [asrt_t (by omega)]
  have h1 := Int.tmod_lt_of_pos a hc
  have h2 : -c < a.tmod c := by have := Int.lt_tmod_of_pos a hc; omega
  by_cases h : a.tmod c < 0
  · rw [decide_eq_true h, cnd_t, w64_v (by omega)]; exact ⟨_, rfl, by omega, by omega⟩
  · rw [decide_eq_false h, cnd_f]; exact ⟨_, rfl, by omega, by omega⟩
/-- A loop that counts and keeps something. -/
theorem build {σ R : Type} {N N0 : Nat} (P : Nat → σ → Prop) (L : Nat → Int → σ → Option R) (g : σ → R)
    (hstep : ∀ (n k : Nat) (s : σ), N0 ≤ n → k < N → P k s → ∃ s', L (n + 1) (k : Int) s = L n ((k + 1 : Nat) : Int) s' ∧ P (k + 1) s')
    (hend : ∀ n s, P N s → L (n + 1) (N : Int) s = some (g s)) : ∀ (d k n : Nat) (s : σ), k + d = N → N0 + d < n → P k s → ∃ s', L n (k : Int) s = some (g s') ∧ P N s'
  | 0, k, n, s, hk, hn, hs => by
    have : k = N := by omega
    subst this
    obtain ⟨m, rfl⟩ : ∃ m, n = m + 1 := ⟨n - 1, by omega⟩
    exact ⟨s, hend m s hs, hs⟩
  | d + 1, k, n, s, hk, hn, hs => by
    obtain ⟨m, rfl⟩ : ∃ m, n = m + 1 := ⟨n - 1, by omega⟩
    obtain ⟨s', h1, h2⟩ := hstep m k s (by omega) (by omega) hs
    rw [h1]; exact build P L g hstep hend d (k + 1) m s' (by omega) (by omega) h2
theorem all_app {l : List Int} {P : Int → Prop} {x : Int} (h : ∀ v ∈ l, P v) (hx : P x) : ∀ v ∈ l ++ [x], P v := by
  intro v hv; rcases List.mem_append.1 hv with hv | hv
  · exact h v hv
  · rw [List.mem_singleton.1 hv]; exact hx
theorem alls_app {l : List (List Int)} {P : List Int → Prop} {x : List Int} (h : ∀ v ∈ l, P v) (hx : P x) : ∀ v ∈ l ++ [x], P v := by
  intro v hv; rcases List.mem_append.1 hv with hv | hv
  · exact h v hv
  · rw [List.mem_singleton.1 hv]; exact hx
theorem len_app {α : Type} {l : List α} {k : Nat} {x : α} (h : l.length = k) : (l ++ [x]).length = k + 1 := by rw [List.length_append, h]; rfl
def okL (lo hi : Int) (k : Nat) (l : List Int) : Prop := l.length = k ∧ ∀ v ∈ l, lo ≤ v ∧ v ≤ hi
theorem okL_app {lo hi : Int} {k : Nat} {l : List Int} {x : Int} (h : okL lo hi k l) (hx : lo ≤ x ∧ x ≤ hi) : okL lo hi (k + 1) (l ++ [x]) := ⟨len_app h.1, all_app h.2 hx⟩
theorem okL_len {lo hi : Int} {k : Nat} {l : List Int} (h : okL lo hi k l) (hk : k ≤ 68719476736) : l.length ≤ 68719476736 := by rw [h.1]; exact hk
theorem ml0 {p : Int} (hp : 0 ≤ p ∧ p < 1073741824) {W : Nat} (hW : W ≤ 10) (n : Nat) (hn : 30 ≤ n) : ∃ l, d_law00_Master_L0 p (W : Int) n 0 [] = some l ∧ okL 0 1073741824 W l := by
  exact build (N := W) (N0 := 0) (okL 0 1073741824) (fun n y s => d_law00_Master_L0 p (W : Int) n y s) (fun s => s) (by
    intro n k s _ hk hs
    have q := tqR (a := p) (c := 24) hp.1 (by decide)
    have r := tmR (a := p.tdiv 24) (c := 7) q.1 (by decide)
    have e := okL_app (x := (p.tdiv 24).tmod 7 + (k : Int)) hs (by omega)
    refine ⟨_, ?_, e⟩
    simp only [d_law00_Master_L0, bnd_v, lt_n hk, cnd_t, w64_v (a := p.tdiv 24) (by omega), w64_v (a := (p.tdiv 24).tmod 7 + (k : Int)) (by omega), nx (show k ≤ 68719476736 by omega)]
    rw [asrt_t (okL_len e (by omega))]) (by intro n s _; simp only [d_law00_Master_L0, bnd_v, lt_f, cnd_f]) W 0 n [] (by omega) (by omega) ⟨rfl, by intro v hv; cases hv⟩
theorem ml2 {p : Int} (hp : 0 ≤ p ∧ p < 1073741824) {W : Nat} (hW : W ≤ 10) {j : Int} (hj : 0 ≤ j ∧ j ≤ 10) (n : Nat) (hn : 30 ≤ n) :
    ∃ l m, d_law00_Master_L2 p (W : Int) j n 0 [] [] = some (l, m) ∧ okL 1 4 W l ∧ okL 0 1073741824 W m := by
  obtain ⟨s, h1, h2⟩ := build (N := W) (N0 := 0) (σ := List Int × List Int) (fun k s => okL 1 4 k s.1 ∧ okL 0 1073741824 k s.2) (fun n y s => d_law00_Master_L2 p (W : Int) j n y s.1 s.2) (fun s => s) (by
    rintro n k ⟨s, t⟩ _ hk ⟨hs, ht⟩
    have q1 := tqR (a := p) (c := 168) hp.1 (by decide)
    have q2 := tqR (a := p) (c := 672) hp.1 (by decide)
    have q3 := tqR (a := p) (c := 2688) hp.1 (by decide)
    have r2 := tmR (a := p.tdiv 672) (c := 4) q2.1 (by decide)
    have m0 : 0 ≤ j * (p.tdiv 672).tmod 4 := Int.mul_nonneg hj.1 r2.1
    have m1 : j * (p.tdiv 672).tmod 4 ≤ 10 * 4 := Int.mul_le_mul hj.2 (by omega) r2.1 (by decide)
    have r3 := tmR (a := p.tdiv 168 + (k : Int) + j * (p.tdiv 672).tmod 4) (c := 4) (by omega) (by decide)
    have r4 := tmR (a := p.tdiv 2688 + 7 * (k : Int) + j) (c := 40) (by omega) (by decide)
    have e1 := okL_app (x := 1 + (p.tdiv 168 + (k : Int) + j * (p.tdiv 672).tmod 4).tmod 4) hs (by omega)
    have e2 := okL_app (x := (p.tdiv 2688 + 7 * (k : Int) + j).tmod 40) ht (by omega)
    refine ⟨(_, _), ?_, e1, e2⟩
    simp only [d_law00_Master_L2, bnd_v, lt_n hk, cnd_t, w64_v (a := p.tdiv 168) (by omega), w64_v (a := p.tdiv 672) (by omega), w64_v (a := p.tdiv 2688) (by omega), w64_v (a := p.tdiv 168 + (k : Int)) (by omega), w64_v (a := j * (p.tdiv 672).tmod 4) (by omega),
      w64_v (a := p.tdiv 168 + (k : Int) + j * (p.tdiv 672).tmod 4) (by omega), w64_v (a := 1 + (p.tdiv 168 + (k : Int) + j * (p.tdiv 672).tmod 4).tmod 4) (by omega), w64_v (a := 7 * (k : Int)) (by omega), w64_v (a := p.tdiv 2688 + 7 * (k : Int)) (by omega), w64_v (a := p.tdiv 2688 + 7 * (k : Int) + j) (by omega), nx (show k ≤ 68719476736 by omega)]
    rw [asrt_t (okL_len e1 (by omega)), asrt_t (okL_len e2 (by omega))]) (by intro n s _; simp only [d_law00_Master_L2, bnd_v, lt_f, cnd_f]) W 0 n ([], []) (by omega) (by omega) ⟨⟨rfl, by intro v hv; cases hv⟩, ⟨rfl, by intro v hv; cases hv⟩⟩
  exact ⟨s.1, s.2, h1, h2⟩
theorem ml1 {p : Int} (hp : 0 ≤ p ∧ p < 1073741824) {W E : Nat} (hW : W ≤ 10) (hE : E ≤ 10) (n : Nat) (hn : 60 ≤ n) :
    ∃ l m, d_law00_Master_L1 p (E : Int) (W : Int) n 0 [] [] = some (l, m) ∧ (l.length = E ∧ ∀ r ∈ l, okL 1 4 W r) ∧ (m.length = E ∧ ∀ r ∈ m, okL 0 1073741824 W r) := by
  obtain ⟨s, h1, h2⟩ := build (N := E) (N0 := 40) (σ := List (List Int) × List (List Int)) (fun k s => (s.1.length = k ∧ ∀ r ∈ s.1, okL 1 4 W r) ∧ (s.2.length = k ∧ ∀ r ∈ s.2, okL 0 1073741824 W r)) (fun n y s => d_law00_Master_L1 p (E : Int) (W : Int) n y s.1 s.2) (fun s => s) (by
    rintro n k ⟨s, t⟩ hn hk ⟨hs, ht⟩
    obtain ⟨l, m, hl, hl1, hl2⟩ := ml2 hp hW (j := (k : Int)) (by omega) n (by omega)
    have e1 : (s ++ [l]).length = k + 1 := len_app hs.1
    have e2 : (t ++ [m]).length = k + 1 := len_app ht.1
    refine ⟨(_, _), ?_, ⟨e1, alls_app hs.2 hl1⟩, ⟨e2, alls_app ht.2 hl2⟩⟩
    simp only [d_law00_Master_L1, bnd_v, lt_n hk, cnd_t, hl, ob_s, p2_v, nx (show k ≤ 68719476736 by omega)]
    rw [asrt_t (by omega), asrt_t (by omega)]; rfl) (by intro n s _; simp only [d_law00_Master_L1, bnd_v, lt_f, cnd_f]) E 0 n ([], []) (by omega) (by omega) ⟨⟨rfl, by intro v hv; cases hv⟩, ⟨rfl, by intro v hv; cases hv⟩⟩
  exact ⟨s.1, s.2, h1, h2⟩
theorem good_few {m : GMaster} (h : goodM m = true) : Few m := by
  obtain ⟨h1, h2, h3, h4, ⟨h5, h6⟩, h7, h8⟩ := goodM_e h
  exact ⟨by omega, by omega, fun r hr => by have := (h6 r hr).1; omega, by omega, fun r hr => by have := (h8 r hr).1; omega⟩
theorem good_i {m : GMaster} (h : (1 ≤ m.Entities ∧ m.Entities ≤ 4) ∧ (1 ≤ m.Periods ∧ m.Periods ≤ 12) ∧ (1 ≤ m.Weights.length ∧ m.Weights.length ≤ 5) ∧ (∀ v ∈ m.Weights, 0 ≤ v ∧ v ≤ 1073741824) ∧
    ((m.Methods.length : Int) = m.Entities ∧ ∀ r ∈ m.Methods, r.length = m.Weights.length ∧ ∀ v ∈ r, 1 ≤ v ∧ v ≤ 4) ∧ ((m.Costs.length : Int) = m.Entities ∧ ∀ r ∈ m.Costs, r.length = m.Weights.length ∧ ∀ v ∈ r, 0 ≤ v ∧ v ≤ 1073741824)) : goodM m = true := by
  obtain ⟨h1, h2, h3, h4, ⟨h5, h6⟩, h7, h8⟩ := h
  unfold goodM rowOk
  simp only [Bool.and_eq_true, inR_t, List.all_eq_true, decide_eq_true_eq]
  exact ⟨h1, h2, ⟨by omega, by omega⟩, h4, ⟨h5, fun r hr => ⟨by have := (h6 r hr).1; omega, (h6 r hr).2⟩⟩, h7, fun r hr => ⟨by have := (h8 r hr).1; omega, (h8 r hr).2⟩⟩
theorem master_v (v : Int) (n : Nat) (hn : 100 ≤ n) : ∃ m, d_law00_Master n v = some m ∧ goodM m = true ∧ 2 ≤ m.Entities ∧ 2 ≤ m.Weights.length := by
  obtain ⟨p, h1, h2⟩ := place_v v (c := 1073741824) (by decide) (by decide)
  have r1 := tmR (a := p) (c := 2) h2.1 (by decide)
  have q2 := tqR (a := p) (c := 2) h2.1 (by decide)
  have r2 := tmR (a := p.tdiv 2) (c := 3) q2.1 (by decide)
  have q3 := tqR (a := p) (c := 6) h2.1 (by decide)
  have r3 := tmR (a := p.tdiv 6) (c := 4) q3.1 (by decide)
  simp only [d_law00_Master, h1, ob_s, bnd_v]
  rw [w64_v (a := 2 + p.tmod 2) (by omega), w64_v (a := p.tdiv 2) (by omega), w64_v (a := 2 + (p.tdiv 2).tmod 3) (by omega), w64_v (a := p.tdiv 6) (by omega), w64_v (a := 1 + (p.tdiv 6).tmod 4) (by omega)]
  obtain ⟨E, hE⟩ : ∃ E : Nat, 2 + p.tmod 2 = (E : Int) := ⟨(2 + p.tmod 2).toNat, by omega⟩
  obtain ⟨W, hW⟩ : ∃ W : Nat, 2 + (p.tdiv 2).tmod 3 = (W : Int) := ⟨(2 + (p.tdiv 2).tmod 3).toNat, by omega⟩
  rw [hE, hW]
  obtain ⟨ws, w1, w2⟩ := ml0 h2 (W := W) (by omega) n (by omega)
  obtain ⟨ms, cs, m1, m2, m3⟩ := ml1 h2 (W := W) (E := E) (by omega) (by omega) n (by omega)
  simp only [w1, m1, ob_s, p2_v]
  refine ⟨_, rfl, good_i ⟨?_, ?_, ?_, w2.2, ⟨?_, ?_⟩, ?_, ?_⟩, ?_, ?_⟩
  · show 1 ≤ (E : Int) ∧ (E : Int) ≤ 4; omega
  · show 1 ≤ 1 + (p.tdiv 6).tmod 4 ∧ 1 + (p.tdiv 6).tmod 4 ≤ 12; omega
  · show 1 ≤ ws.length ∧ ws.length ≤ 5; rw [w2.1]; omega
  · show (ms.length : Int) = E; rw [m2.1]
  · intro r hr; have := m2.2 r hr; exact ⟨by rw [this.1]; exact w2.1.symm, this.2⟩
  · show (cs.length : Int) = E; rw [m3.1]
  · intro r hr; have := m3.2 r hr; exact ⟨by rw [this.1]; exact w2.1.symm, this.2⟩
  · show 2 ≤ (E : Int); omega
  · show 2 ≤ ws.length; rw [w2.1]; omega
theorem ent0_fit {w : Nat} (hw : w ≤ 20) : FitE 1 (ent0 w) := by
  refine ⟨?_, ?_, ?_, ?_, ?_, ?_, Nat.zero_le _, by intro x hx; cases hx⟩
  · show (List.replicate (2 * w) _).length ≤ 1000; rw [List.length_replicate]; omega
  · intro p hp; rw [List.eq_of_mem_replicate hp]; exact Nat.zero_le _
  · show (List.replicate w _).length ≤ 1000; rw [List.length_replicate]; omega
  · show (List.replicate 17 _).length ≤ 1000; rw [List.length_replicate]; omega
  · show (List.replicate w _).length ≤ 1000; rw [List.length_replicate]; omega
  · show (List.replicate w _).length ≤ 1000; rw [List.length_replicate]; omega
theorem startM_fit {m : GMaster} (hm : Few m) : FitS 1 (startM m).1 := by
  unfold startM
  cases hg : goodM m with
  | false => exact ⟨⟨Nat.zero_le _, Nat.zero_le _, (by intro r hr; cases hr), Nat.zero_le _, (by intro r hr; cases hr)⟩, Nat.zero_le _, (by intro r hr; cases hr), Nat.zero_le _, Nat.zero_le _, Nat.zero_le _⟩
  | true =>
    have h1 := (goodM_e hg).1
    refine ⟨hm, ?_, ?_, Nat.zero_le _, Nat.zero_le _, Nat.zero_le _⟩
    · show (List.replicate _ _).length ≤ 1000; rw [List.length_replicate]; omega
    · intro x hx; rw [List.eq_of_mem_replicate hx]; exact ent0_fit hm.w
end Go.Pv
