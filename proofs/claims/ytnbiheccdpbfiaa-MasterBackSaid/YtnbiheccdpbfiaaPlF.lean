/- Plain laws: a master's start; a state is the same as itself. -/
import Derived.Test.YtnbiheccdpbfiaaPlE
set_option linter.unusedSimpArgs false
set_option linter.unusedVariables false
namespace Go.Pv
theorem foldl_app1 {α : Type} : ∀ (l : List α) (s : List α), l.foldl (fun s v => s ++ [v]) s = s ++ l
  | [], s => by simp
  | x :: l, s => by rw [List.foldl_cons, foldl_app1 l]; simp
theorem own_v {l : List (List Int)} (hl : l.length ≤ 20) (hr : ∀ r ∈ l, r.length ≤ 20) (n : Nat) (hn : 30 ≤ n) : d_master_own n l = some l := by
  have k1 := fold (N0 := 0) (l := l) (fun s v => s ++ [v]) (fun k s => s.length = k) (fun n y s => d_master_own_L0 l n y s) some (by
      intro n k v s _ hv hI
      have hv1 := hr v (mem_get hv)
      have hk := lt_k hv
      have hlen : (s ++ [v]).length = k + 1 := by rw [List.length_append, hI]; rfl
      refine ⟨?_, hlen⟩
      simp only [d_master_own_L0, bnd_v, lt_t hv, cnd_t, ix_nat, hv, ob_s, nx (le_k hv (by omega : l.length ≤ 68719476736))]
      rw [asrt_t (by omega), asrt_t (by omega)]) (by intro n s _; simp only [d_master_own_L0, bnd_v, lt_f, cnd_f]) l.length 0 n [] (by omega) (by omega) rfl
  rw [List.drop_zero, foldl_app1] at k1
  simp only [d_master_own]
  rw [show d_master_own_L0 l n 0 [] = _ from k1.1]; rfl
/-- What is there at the start. -/
def ent0 (w : Nat) : GEnt := ⟨1, false, List.replicate (2 * w) ⟨[], ⟨0, 0, 0⟩⟩, List.replicate 17 0, List.replicate w ⟨0, 0, 0, 0, 0, 0, 0, 0, 0, 0, 0⟩, List.replicate w (-1), List.replicate w 0, []⟩
def zeroS : GState := ⟨zeroM, [], [], [], [], 0⟩
def startM (m : GMaster) : GState × Int := cond (goodM m) (⟨m, List.replicate m.Entities.toNat (ent0 m.Weights.length), [], [], [], 0⟩, 0) (zeroS, 1)
/-- A list of nothing turned, cell by cell. -/
def half (w k : Nat) : List Int := List.replicate k (-1) ++ List.replicate (w - k) 0
theorem half_get {w k : Nat} (h : k < w) : (half w k)[k]? = some 0 := by
  unfold half
  rw [List.getElem?_append_right (by rw [List.length_replicate]; omega), List.length_replicate, Nat.sub_self, List.getElem?_replicate]; simp only [show 0 < w - k by omega, if_true]
theorem half_set {w k : Nat} (h : k < w) : (half w k).set k (-1) = half w (k + 1) := by
  unfold half
  rw [List.set_append_right _ _ (by rw [List.length_replicate]; omega), List.length_replicate, Nat.sub_self]
  obtain ⟨j, hj⟩ : ∃ j, w - k = j + 1 := ⟨w - k - 1, by omega⟩
  have : w - (k + 1) = j := by omega
  rw [hj, this, List.replicate_succ, List.set_cons_zero, List.replicate_succ' (n := k), List.append_assoc]; rfl
theorem iter_sp {N N0 : Nat} {σ R : Type} (S : Nat → σ) (L : Nat → Int → σ → Option R) (fin : σ → Option R)
    (hstep : ∀ (n k : Nat), N0 ≤ n → k < N → L (n + 1) (k : Int) (S k) = L n ((k + 1 : Nat) : Int) (S (k + 1)))
    (hend : ∀ n, L (n + 1) (N : Int) (S N) = fin (S N)) : ∀ (d k n : Nat), k + d = N → N0 + d < n → L n (k : Int) (S k) = fin (S N)
  | 0, k, n, hk, hn => by
    have : k = N := by omega
    subst this
    obtain ⟨m, rfl⟩ : ∃ m, n = m + 1 := ⟨n - 1, by omega⟩
    exact hend m
  | d + 1, k, n, hk, hn => by
    obtain ⟨m, rfl⟩ : ∃ m, n = m + 1 := ⟨n - 1, by omega⟩
    rw [hstep m k (by omega) (by omega)]
    exact iter_sp S L fin hstep hend d (k + 1) m (by omega) (by omega)
theorem half_0 (w : Nat) : half w 0 = List.replicate w 0 := rfl
theorem half_w (w : Nat) : half w w = List.replicate w (-1) := by unfold half; rw [Nat.sub_self]; simp
theorem st1 {m : GMaster} (hw : m.Weights.length ≤ 20) (n : Nat) (hn : 30 ≤ n) : d_master_Start_L1 m n 0 (List.replicate m.Weights.length 0) = some (List.replicate m.Weights.length (-1)) := by
  have := iter_sp (N := m.Weights.length) (N0 := 0) (half m.Weights.length) (fun n y s => d_master_Start_L1 m n y s) some (by
    intro n k _ hk
    simp only [d_master_Start_L1, bnd_v, Int.toNat_natCast, lt_n hk, cnd_t, ix_nat, half_get hk, ob_s, half_set hk, nx (show k ≤ 68719476736 by omega)]) (by
    intro n; simp only [d_master_Start_L1, bnd_v, Int.toNat_natCast, lt_f, cnd_f]) m.Weights.length 0 n (by omega) (by omega)
  rw [half_w, half_0] at this; exact this
theorem rst1 {m : GMaster} (hw : m.Weights.length ≤ 20) (n : Nat) (hn : 30 ≤ n) : d_ref04_Start_L1 m n 0 (List.replicate m.Weights.length 0) = some (List.replicate m.Weights.length (-1)) := by
  have := iter_sp (N := m.Weights.length) (N0 := 0) (half m.Weights.length) (fun n y s => d_ref04_Start_L1 m n y s) some (by
    intro n k _ hk
    simp only [d_ref04_Start_L1, bnd_v, lt_n hk, cnd_t, ix_nat, half_get hk, ob_s, Int.toNat_natCast, half_set hk, nx (show k ≤ 68719476736 by omega)]) (by
    intro n; simp only [d_ref04_Start_L1, bnd_v, lt_f, cnd_f]) m.Weights.length 0 n (by omega) (by omega)
  rw [half_w, half_0] at this; exact this
theorem rep_app {α : Type} (k : Nat) (a : α) : List.replicate k a ++ [a] = List.replicate (k + 1) a := List.replicate_succ'.symm
theorem dbl {w : Nat} (h : w ≤ 20) : w64 ((w : Int) * 2) = ((2 * w : Nat) : Int) := by rw [w64_v (by omega)]; omega
theorem st0 {m : GMaster} (hm : Few m) {N : Nat} (hN : m.Entities = (N : Int)) (hN4 : N ≤ 4) (n : Nat) (hn : 50 ≤ n) : d_master_Start_L0 m n 0 [] = some (List.replicate N (ent0 m.Weights.length)) := by
  have hw := hm.w
  exact iter_sp (N := N) (N0 := 30) (fun k => List.replicate k (ent0 m.Weights.length)) (fun n y s => d_master_Start_L0 m n y s) some (by
    intro n k hn hk
    have hlen : (List.replicate (k + 1) (ent0 m.Weights.length)).length = k + 1 := List.length_replicate
    simp only [d_master_Start_L0, bnd_v, hN, lt_n hk, cnd_t, dbl hw, Int.toNat_natCast, st1 hw n hn, ob_s, nx (show k ≤ 68719476736 by omega)]
    rw [asrt_t (by omega), asrt_t (by omega), asrt_t (by omega), asrt_t (by omega), asrt_t (by omega)]
    show (asrt ((List.replicate k (ent0 m.Weights.length) ++ [ent0 m.Weights.length]).length ≤ 68719476736) (some (List.replicate k (ent0 m.Weights.length) ++ [ent0 m.Weights.length]))).bind _ = _
    rw [rep_app, asrt_t (by omega)]; rfl) (by
    intro n; simp only [d_master_Start_L0, bnd_v, hN, lt_f, cnd_f]) N 0 n (by omega) (by omega)
theorem rst0 {m : GMaster} (hm : Few m) {N : Nat} (hN : m.Entities = (N : Int)) (hN4 : N ≤ 4) (n : Nat) (hn : 50 ≤ n) : d_ref04_Start_L0 m n 0 [] = some (List.replicate N (ent0 m.Weights.length)) := by
  have hw := hm.w
  exact iter_sp (N := N) (N0 := 30) (fun k => List.replicate k (ent0 m.Weights.length)) (fun n y s => d_ref04_Start_L0 m n y s) some (by
    intro n k hn hk
    have hlen : (List.replicate (k + 1) (ent0 m.Weights.length)).length = k + 1 := List.length_replicate
    simp only [d_ref04_Start_L0, bnd_v, hN, lt_n hk, cnd_t, dbl hw, Int.toNat_natCast, rst1 hw n hn, ob_s, nx (show k ≤ 68719476736 by omega)]
    rw [asrt_t (by omega), asrt_t (by omega), asrt_t (by omega), asrt_t (by omega), asrt_t (by omega)]
    show (asrt ((List.replicate k (ent0 m.Weights.length) ++ [ent0 m.Weights.length]).length ≤ 68719476736) (some (List.replicate k (ent0 m.Weights.length) ++ [ent0 m.Weights.length]))).bind _ = _
    rw [rep_app, asrt_t (by omega)]; rfl) (by
    intro n; simp only [d_ref04_Start_L0, bnd_v, hN, lt_f, cnd_f]) N 0 n (by omega) (by omega)
theorem start_v {m : GMaster} (hm : Few m) (n : Nat) (hn : 100 ≤ n) : d_master_Start n m = some (startM m) := by
  have w := hm.w; have mm := hm.m; have cc := hm.c
  simp only [d_master_Start, check_v hm n (by omega), ob_s, bnd_v]
  unfold startM
  cases hg : goodM m with
  | false => rfl
  | true =>
    obtain ⟨h1, h2, h3, h4, ⟨h5, h6⟩, h7, h8⟩ := goodM_e hg
    simp only [Bool.not_true, cnd_f, cnd_t, own_v (l := m.Methods) (by omega) hm.mr n (by omega), own_v (l := m.Costs) (by omega) hm.cr n (by omega), ob_s, st0 hm (N := m.Entities.toNat) (by omega) (by omega) n (by omega)]
    rw [asrt_t (by omega)]
theorem rstart_v {m : GMaster} (hm : Few m) (n : Nat) (hn : 100 ≤ n) : d_ref04_Start n m = some (startM m) := by
  have w := hm.w; have mm := hm.m; have cc := hm.c
  simp only [d_ref04_Start, rcheck_v hm n (by omega), ob_s, bnd_v]
  unfold startM
  cases hg : goodM m with
  | false => rfl
  | true =>
    obtain ⟨h1, h2, h3, h4, ⟨h5, h6⟩, h7, h8⟩ := goodM_e hg
    simp only [Bool.not_true, cnd_f, cnd_t, ob_s, rst0 hm (N := m.Entities.toNat) (by omega) (by omega) n (by omega)]
end Go.Pv
