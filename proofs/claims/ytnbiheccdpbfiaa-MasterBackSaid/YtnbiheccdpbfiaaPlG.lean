/- Plain laws: a state is the same as itself. -/
import Derived.Test.YtnbiheccdpbfiaaPlF
set_option linter.unusedSimpArgs false
set_option linter.unusedVariables false
namespace Go.Pv
theorem scan0 {α R : Type} {l : List α} {N0 : Nat} (L : Nat → Int → Option (Unit ⊕ R))
    (hstep : ∀ (n k : Nat) (v : α), N0 ≤ n → l[k]? = some v → L (n + 1) (k : Int) = L n ((k + 1 : Nat) : Int))
    (hend : ∀ n, L (n + 1) (l.length : Int) = brk ()) : ∀ (d k n : Nat), k + d = l.length → N0 + d < n → L n (k : Int) = brk ()
  | 0, k, n, hk, hn => by
    have : k = l.length := by omega
    subst this
    obtain ⟨m, rfl⟩ : ∃ m, n = m + 1 := ⟨n - 1, by omega⟩
    exact hend m
  | d + 1, k, n, hk, hn => by
    obtain ⟨v, hv⟩ := get_some (l := l) (k := k) (by omega)
    obtain ⟨m, rfl⟩ : ∃ m, n = m + 1 := ⟨n - 1, by omega⟩
    rw [hstep m k v (by omega) hv]
    exact scan0 L hstep hend d (k + 1) m (by omega) (by omega)
theorem dne_self (a : Int) : decide (a ≠ a) = false := decide_eq_false (by simp)
theorem dneb_self (a : Bool) : decide (a ≠ a) = false := decide_eq_false (by simp)
theorem deq_self {α : Type} [DecidableEq α] (a : α) : decide (a = a) = true := decide_eq_true rfl
theorem sel_b {β : Type} {f : Unit → Option β} : ((brk () : Option (Unit ⊕ β))).bind (sel f) = f () := rfl
theorem sints_r {l : List Int} (hl : l.length ≤ 1000) (n : Nat) (hn : 1100 ≤ n) : d_ref04_SameInts n l l = some true := by
  have := scan0 (N0 := 0) (l := l) (d_ref04_SameInts_L0 l l) (by
    intro n k v _ hv
    simp only [d_ref04_SameInts_L0, bnd_v, lt_t hv, cnd_t, ix_nat, hv, ob_s, nx (le_k hv (by omega : l.length ≤ 68719476736)), dne_self, cnd_f]) (by
    intro n; simp only [d_ref04_SameInts_L0, bnd_v, lt_f, cnd_f]) l.length 0 n (by omega) (by omega)
  simp only [d_ref04_SameInts, bnd_v, dne_self, cnd_f]
  rw [show d_ref04_SameInts_L0 l l n 0 = _ from this]; rfl
theorem slay_r (x : GLayer) : d_ref09_SameLayer x x = some true := by
  simp only [d_ref09_SameLayer, bnd_v, decide_true, cnd_t, ob_s]
theorem slays_r {l : List GLayer} (hl : l.length ≤ 1000) (n : Nat) (hn : 1100 ≤ n) : d_ref09_Same n l l = some true := by
  have := scan0 (N0 := 0) (l := l) (d_ref09_Same_L0 l l) (by
    intro n k v _ hv
    simp only [d_ref09_Same_L0, bnd_v, lt_t hv, cnd_t, ix_nat, hv, ob_s, nx (le_k hv (by omega : l.length ≤ 68719476736)), slay_r, Bool.not_true, cnd_f]) (by
    intro n; simp only [d_ref09_Same_L0, bnd_v, lt_f, cnd_f]) l.length 0 n (by omega) (by omega)
  simp only [d_ref09_Same, bnd_v, dne_self, cnd_f]
  rw [show d_ref09_Same_L0 l l n 0 = _ from this]; rfl
theorem spool_r {p : GPool} (hl : p.Layers.length ≤ 1000) (n : Nat) (hn : 1100 ≤ n) : d_ref11_Same n p p = some true := by
  simp only [d_ref11_Same, bnd_v, slays_r hl n hn, decide_true, cnd_t, ob_s]
theorem spapers_r {s : GState} (h1 : s.Receipts.length ≤ 1000) (h2 : s.Sales.length ≤ 1000) (h3 : s.Transits.length ≤ 1000) (n : Nat) (hn : 1100 ≤ n) : d_ref14_samePapers n s s = some true := by
  have k0 := scan0 (N0 := 0) (l := s.Receipts) (d_ref14_samePapers_L0 s s) (by
    intro n k v _ hv
    simp only [d_ref14_samePapers_L0, bnd_v, lt_t hv, cnd_t, ix_nat, hv, ob_s, nx (le_k hv (by omega : s.Receipts.length ≤ 68719476736)), decide_true, Bool.not_true, cnd_f]) (by
    intro n; simp only [d_ref14_samePapers_L0, bnd_v, lt_f, cnd_f]) s.Receipts.length 0 n (by omega) (by omega)
  have k1 := scan0 (N0 := 0) (l := s.Sales) (d_ref14_samePapers_L1 s s) (by
    intro n k v _ hv
    simp only [d_ref14_samePapers_L1, bnd_v, lt_t hv, cnd_t, ix_nat, hv, ob_s, nx (le_k hv (by omega : s.Sales.length ≤ 68719476736)), decide_true, Bool.not_true, cnd_f]) (by
    intro n; simp only [d_ref14_samePapers_L1, bnd_v, lt_f, cnd_f]) s.Sales.length 0 n (by omega) (by omega)
  have k2 := scan0 (N0 := 0) (l := s.Transits) (d_ref14_samePapers_L2 s s) (by
    intro n k v _ hv
    simp only [d_ref14_samePapers_L2, bnd_v, lt_t hv, cnd_t, ix_nat, hv, ob_s, nx (le_k hv (by omega : s.Transits.length ≤ 68719476736)), decide_true, Bool.not_true, cnd_f]) (by
    intro n; simp only [d_ref14_samePapers_L2, bnd_v, lt_f, cnd_f]) s.Transits.length 0 n (by omega) (by omega)
  simp only [d_ref14_samePapers, bnd_v, dne_self, cnd_f, ob_s]
  rw [show d_ref14_samePapers_L0 s s n 0 = _ from k0, show d_ref14_samePapers_L1 s s n 0 = _ from k1, show d_ref14_samePapers_L2 s s n 0 = _ from k2]; rfl
/-- How great an entity may be; how deep. -/
def FitE : Nat → GEnt → Prop
  | 0, _ => False
  | d + 1, e => e.Pools.length ≤ 1000 ∧ (∀ p ∈ e.Pools, p.Layers.length ≤ 1000) ∧ e.Rolls.length ≤ 1000 ∧ e.Bal.length ≤ 1000 ∧ e.Prices.length ≤ 1000 ∧ e.Down.length ≤ 1000 ∧ e.Ahead.length ≤ 1000 ∧ ∀ x ∈ e.Ahead, FitE d x
theorem sent_r : ∀ (d : Nat) {e : GEnt}, FitE d e → ∀ (n : Nat), 5000 * d ≤ n → d_ref14_sameEnt n e e = some true
  | 0, e, h, _, _ => h.elim
  | d + 1, e, ⟨h1, h2, h3, h4, h5, h6, h7, h8⟩, n, hn => by
    obtain ⟨m, rfl⟩ : ∃ m, n = m + 1 := ⟨n - 1, by omega⟩
    have k0 := scan0 (N0 := 1100) (l := e.Pools) (d_ref14_sameEnt_L0 e e) (by
      intro n k v hn hv
      simp only [d_ref14_sameEnt_L0, bnd_v, lt_t hv, cnd_t, ix_nat, hv, ob_s, nx (le_k hv (by omega : e.Pools.length ≤ 68719476736)), spool_r (h2 v (mem_get hv)) n hn, Bool.not_true, cnd_f]) (by
      intro n; simp only [d_ref14_sameEnt_L0, bnd_v, lt_f, cnd_f]) e.Pools.length 0 m (by omega) (by omega)
    have k1 := scan0 (N0 := 0) (l := e.Rolls) (d_ref14_sameEnt_L1 e e) (by
      intro n k v hn hv
      simp only [d_ref14_sameEnt_L1, bnd_v, lt_t hv, cnd_t, ix_nat, hv, ob_s, nx (le_k hv (by omega : e.Rolls.length ≤ 68719476736)), d_ref14_Numbers, decide_true, Bool.not_true, cnd_f]) (by
      intro n; simp only [d_ref14_sameEnt_L1, bnd_v, lt_f, cnd_f]) e.Rolls.length 0 m (by omega) (by omega)
    have k2 := scan0 (N0 := 5000 * d) (l := e.Ahead) (d_ref14_sameEnt_L2 e e) (by
      intro n k v hn hv
      simp only [d_ref14_sameEnt_L2, bnd_v, lt_t hv, cnd_t, ix_nat, hv, ob_s, nx (le_k hv (by omega : e.Ahead.length ≤ 68719476736)), sent_r d (h8 v (mem_get hv)) n hn, Bool.not_true, cnd_f]) (by
      intro n; simp only [d_ref14_sameEnt_L2, bnd_v, lt_f, cnd_f]) e.Ahead.length 0 m (by omega) (by omega)
    simp only [d_ref14_sameEnt, bnd_v, dne_self, dneb_self, cnd_f, ob_s]
    rw [show d_ref14_sameEnt_L0 e e m 0 = _ from k0, sel_b, show d_ref14_sameEnt_L1 e e m 0 = _ from k1, sel_b, show d_ref14_sameEnt_L2 e e m 0 = _ from k2, sel_b, sints_r h4 m (by omega), sints_r h5 m (by omega), sints_r h6 m (by omega)]; rfl
structure FitS (d : Nat) (s : GState) : Prop where
  m : Few s.Master
  e : s.Ents.length ≤ 1000
  es : ∀ x ∈ s.Ents, FitE d x
  r : s.Receipts.length ≤ 1000
  sl : s.Sales.length ≤ 1000
  t : s.Transits.length ≤ 1000
theorem same_r {d : Nat} {s : GState} (h : FitS d s) (n : Nat) (hn : 5000 * d + 2000 ≤ n) : d_ref14_Same n s s = some true := by
  have he := h.e
  have k0 := scan0 (N0 := 5000 * d) (l := s.Ents) (d_ref14_Same_L0 s s) (by
    intro n k v hn hv
    simp only [d_ref14_Same_L0, bnd_v, lt_t hv, cnd_t, ix_nat, hv, ob_s, nx (le_k hv (by omega : s.Ents.length ≤ 68719476736)), sent_r d (h.es v (mem_get hv)) n hn, Bool.not_true, cnd_f]) (by
    intro n; simp only [d_ref14_Same_L0, bnd_v, lt_f, cnd_f]) s.Ents.length 0 n (by omega) (by omega)
  simp only [d_ref14_Same, bnd_v, rsame_v h.m n (by omega), decide_true, Bool.not_true, cnd_f, ob_s, dne_self, spapers_r h.r h.sl h.t n (by omega)]
  rw [show d_ref14_Same_L0 s s n 0 = _ from k0]; rfl
end Go.Pv
