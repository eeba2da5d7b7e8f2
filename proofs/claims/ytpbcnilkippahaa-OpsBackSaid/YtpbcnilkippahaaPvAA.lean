import Derived.Test.YtpbcnilkippahaaP67
import Derived.Test.YtpbcnilkippahaaPvT
set_option linter.unusedSimpArgs false
set_option linter.unusedVariables false
namespace Go.Pv
set_option maxRecDepth 100000
set_option maxHeartbeats 1000000
def Ex {α : Type} (P : α → Prop) (D : Option α) : Prop := ∃ a, D = some a ∧ P a
theorem x_bnd {α β : Type} {P : β → Prop} {x : α} {f : α → Option β} (h : Ex P (f x)) : Ex P (bnd x f) := h
theorem x_cond {β : Type} {P : β → Prop} {c : Bool} {a b : Option β} (h1 : Ex P a) (h2 : Ex P b) : Ex P (cond c a b) := by cases c; exact h2; exact h1
theorem x_as {β : Type} {P : β → Prop} {p : Prop} [Decidable p] {k : Option β} (hp : p) (h : Ex P k) : Ex P (asrt p k) := by unfold asrt; rw [if_pos hp]; exact h
theorem x_bi {α β : Type} {P : β → Prop} {Q : α → Prop} {x : Option α} {f : α → Option β} (h1 : Ex Q x) (h2 : ∀ a, Q a → Ex P (f a)) : Ex P (x.bind f) := by
  obtain ⟨a, rfl, ha⟩ := h1; exact h2 a ha
theorem x_ix {α β : Type} {P : β → Prop} {l : List α} {i : Int} {f : α → Option β} (h0 : 0 ≤ i) (h1 : i < (l.length : Int)) (h2 : ∀ a ∈ l, Ex P (f a)) : Ex P ((ix l i).bind f) := by
  have hi : i.toNat < l.length := by omega
  have hx : l[i.toNat]? = some l[i.toNat] := List.getElem?_eq_getElem hi
  obtain ⟨b, hb, hp⟩ := h2 l[i.toNat] (List.getElem_mem hi)
  exact ⟨b, v_ix h0 hx hb, hp⟩
theorem x_p2 {α β γ : Type} {P : γ → Prop} {f : α → β → Option γ} {q : α × β} (h : Ex P (f q.1 q.2)) : Ex P (p2 f q) := h
theorem x_end {α : Type} {P : α → Prop} {a : α} (h : P a) : Ex P (some a) := ⟨a, rfl, h⟩
theorem tmod_r {a n : Int} (h : 0 < n) : -n < a.tmod n ∧ a.tmod n < n := by
  have h1 := Int.tmod_lt_of_pos a h
  have h2 := Int.tmod_lt_of_pos (-a) h
  rw [Int.neg_tmod] at h2; omega
theorem plc_x {v n : Int} (h : 0 < n ∧ n ≤ 4611686018427387904) : Ex (fun x => 0 ≤ x ∧ x < n) (d_law00_Place v n) := by
  have hr := tmod_r (a := v) h.1
  unfold d_law00_Place
  refine x_as (by omega) (x_bnd ?_)
  by_cases h0 : v.tmod n < 0
  · exact ⟨_, v_T h0 (v_bi (v_cT (v_w (by omega) rfl)) rfl), by omega⟩
  · exact ⟨_, v_F h0 (v_bi (v_cF rfl) rfl), by omega⟩
theorem mas0 (x3 : Int) (c : Nat) (hc : c ≤ 10) : ∀ (d k n : Nat) (acc : List Int), k + d = c → d < n → acc.length = k → Ex (fun r : List Int => r.length = c) (d_law00_Master_L0 x3 (c : Int) n (k : Int) acc)
  | _, _, 0, _, _, hn, _ => by omega
  | 0, k, n + 1, acc, hk, hn, ha => by
    rw [d_law00_Master_L0]
    exact ⟨acc, v_F (by omega) (v_cF rfl), by omega⟩
  | d + 1, k, n + 1, acc, hk, hn, ha => by
    rw [d_law00_Master_L0]
    have hw : w64 ((k : Int) + 1) = ((k + 1 : Nat) : Int) := wrap64 (by omega)
    obtain ⟨r, h1, h2⟩ := mas0 x3 c hc d (k + 1) n (acc ++ [w64 ((w64 (x3.tdiv 24)).tmod 7 + (k : Int))]) (by omega) (by omega) (by rw [List.length_append, ha]; rfl)
    refine ⟨r, v_T (by omega) (v_cT (v_bnd (v_bnd (v_bnd (v_bnd (v_as (by rw [List.length_append]; simp; omega) (v_bnd ?_))))))), h2⟩
    rw [hw]; exact h1
theorem mas2 (x3 y : Int) (c : Nat) (hc : c ≤ 10) : ∀ (d k n : Nat) (a b : List Int), k + d = c → d < n → a.length = k → b.length = k → Ex (fun _ => True) (d_law00_Master_L2 x3 (c : Int) y n (k : Int) a b)
  | _, _, 0, _, _, _, hn, _, _ => by omega
  | 0, k, n + 1, a, b, hk, hn, ha, hb => by
    rw [d_law00_Master_L2]
    exact ⟨(a, b), v_F (by omega) (v_cF rfl), trivial⟩
  | d + 1, k, n + 1, a, b, hk, hn, ha, hb => by
    rw [d_law00_Master_L2]
    have hw : w64 ((k : Int) + 1) = ((k + 1 : Nat) : Int) := wrap64 (by omega)
    have ih := fun a' b' h1 h2 => mas2 x3 y c hc d (k + 1) n a' b' (by omega) (by omega) h1 h2
    rw [decide_eq_true (show (k : Int) < (c : Int) by omega)]
    refine x_bnd (x_bnd (x_bnd (x_bnd (x_bnd (x_bnd (x_bnd (x_bnd (x_bnd (x_bnd (x_as (by rw [List.length_append]; simp; omega) (x_bnd (x_bnd (x_bnd (x_bnd (x_bnd (x_bnd (x_as (by rw [List.length_append]; simp; omega) (x_bnd ?_))))))))))))))))))
    rw [hw]
    exact ih _ _ (by rw [List.length_append, ha]; rfl) (by rw [List.length_append, hb]; rfl)
theorem mas1 (x3 : Int) (e c : Nat) (he : e ≤ 10) (hc : c ≤ 10) : ∀ (d k n : Nat) (a b : List (List Int)), k + d = e → d + 20 < n → a.length = k → b.length = k → Ex (fun _ => True) (d_law00_Master_L1 x3 (e : Int) (c : Int) n (k : Int) a b)
  | _, _, 0, _, _, _, hn, _, _ => by omega
  | 0, k, n + 1, a, b, hk, hn, ha, hb => by
    rw [d_law00_Master_L1]
    exact ⟨(a, b), v_F (by omega) (v_cF rfl), trivial⟩
  | d + 1, k, n + 1, a, b, hk, hn, ha, hb => by
    rw [d_law00_Master_L1]
    have hw : w64 ((k : Int) + 1) = ((k + 1 : Nat) : Int) := wrap64 (by omega)
    have ih := fun a' b' h1 h2 => mas1 x3 e c he hc d (k + 1) n a' b' (by omega) (by omega) h1 h2
    rw [decide_eq_true (show (k : Int) < (e : Int) by omega)]
    refine x_bnd (show Ex _ (Option.bind _ _) from x_bi (Q := fun q => q.1.length = k + 1 ∧ q.2.length = k + 1) ?_ ?_)
    · refine x_bi (mas2 x3 k c hc c 0 n [] [] (by omega) (by omega) rfl rfl) (fun q _ => x_p2 (x_bnd (x_as (by rw [List.length_append]; simp; omega) (x_bnd (x_as (by rw [List.length_append]; simp; omega) (x_end ?_))))))
      exact ⟨by rw [List.length_append, ha]; rfl, by rw [List.length_append, hb]; rfl⟩
    · intro q hq
      refine x_p2 (x_bnd ?_)
      rw [hw]
      exact ih _ _ hq.1 hq.2
def MasOk (m : GMaster) : Prop := (m.Entities = 2 ∨ m.Entities = 3) ∧ 2 ≤ m.Weights.length ∧ m.Weights.length ≤ 4
theorem tmod_n {a n : Int} (ha : 0 ≤ a) (h : 0 < n) : 0 ≤ a.tmod n ∧ a.tmod n < n := ⟨Int.tmod_nonneg n ha, (tmod_r h).2⟩
theorem tdiv_n {a n : Int} (ha : 0 ≤ a) (h : 0 ≤ n) : 0 ≤ a.tdiv n ∧ a.tdiv n ≤ a := ⟨Int.tdiv_nonneg ha h, Int.tdiv_le_self n ha⟩
theorem w64_n {a : Int} (h : 0 ≤ a ∧ a ≤ 9223372036854775807) : w64 a = a := wrap64 (by omega)
theorem mas (v : Int) {n : Nat} (hn : 50 ≤ n) : Ex MasOk (d_law00_Master n v) := by
  unfold d_law00_Master
  refine x_bi (plc_x (by decide)) (fun x hx => ?_)
  have h2 := tmod_n hx.1 (show (0 : Int) < 2 by decide)
  have d2 := tdiv_n hx.1 (show (0 : Int) ≤ 2 by decide)
  have w2 : w64 (x.tdiv 2) = x.tdiv 2 := w64_n (by omega)
  have h3 := tmod_n d2.1 (show (0 : Int) < 3 by decide)
  have w3 : w64 (2 + x.tmod 2) = ((2 + (x.tmod 2).toNat : Nat) : Int) := by rw [w64_n (by omega)]; omega
  have w4 : w64 (2 + (x.tdiv 2).tmod 3) = ((2 + ((x.tdiv 2).tmod 3).toNat : Nat) : Int) := by rw [w64_n (by omega)]; omega
  refine x_bnd (x_bnd (x_bnd (x_bnd (x_bnd (x_bnd (x_bnd (x_bnd ?_)))))))
  rw [w2, w3, w4]
  have e2 : (x.tmod 2).toNat ≤ 1 := by omega
  have e3 : ((x.tdiv 2).tmod 3).toNat ≤ 2 := by omega
  refine x_bi (mas0 x (2 + ((x.tdiv 2).tmod 3).toNat) (by omega) _ 0 n [] (Nat.zero_add _) (by omega) rfl) (fun r hr => ?_)
  refine x_bi (mas1 x (2 + (x.tmod 2).toNat) (2 + ((x.tdiv 2).tmod 3).toNat) (by omega) (by omega) _ 0 n [] [] (Nat.zero_add _) (by omega) rfl rfl) (fun q _ => ?_)
  refine x_p2 (x_end ⟨?_, ?_, ?_⟩)
  · dsimp only; omega
  · dsimp only; omega
  · dsimp only; omega
theorem opn (m : GMaster) (hm : MasOk m) (v : Int) : Ex (fun o : GOp => o.Refs.length ≤ 3) (d_law00_Op m v) := by
  unfold d_law00_Op
  obtain ⟨he, hw1, hw2⟩ := hm
  refine x_bi (plc_x (by decide)) (fun x hx => ?_)
  have d8 := tdiv_n hx.1 (show (0 : Int) ≤ 8192 by decide)
  have e8 : w64 (x.tdiv 8192) = x.tdiv 8192 := w64_n (by omega)
  have m24 := tmod_n d8.1 (show (0 : Int) < 24 by decide)
  have e24 : w64 (1 + (x.tdiv 8192).tmod 24) = 1 + (x.tdiv 8192).tmod 24 := w64_n (by omega)
  have m3 : 0 ≤ (w64 (1 + (w64 (x.tdiv 8192)).tmod 24)).tmod 3 ∧ (w64 (1 + (w64 (x.tdiv 8192)).tmod 24)).tmod 3 < 3 := by
    rw [e8, e24]; exact tmod_n (show 0 ≤ 1 + (x.tdiv 8192).tmod 24 by omega) (show (0 : Int) < 3 by decide)
  have w41 : w64 (m.Entities - 1) ≠ 0 := by rcases he with h | h <;> rw [h] <;> decide
  have hE : m.Entities ≠ 0 := by omega
  have hW : (m.Weights.length : Int) ≠ 0 := by omega
  clear hx
  repeat (first
    | exact x_end (Nat.zero_le _)
    | with_reducible refine x_as hE ?_
    | with_reducible refine x_as hW ?_
    | with_reducible refine x_as w41 ?_
    | with_reducible refine x_cond ?_ ?_
    | with_reducible refine x_bnd ?_
    | (refine x_ix m3.1 m3.2 ?_; intro l hl; refine x_bnd (x_end ?_); simp only [List.mem_cons, List.not_mem_nil, or_false] at hl; rcases hl with rfl | rfl | rfl <;> (show (_ : Nat) ≤ 3; simp)))
theorem oddn (o : GOp) (h : o.Refs.length ≤ 3) (v : Int) : Ex (fun o : GOp => o.Refs.length ≤ 4) (d_law00_Odd o v) := by
  unfold d_law00_Odd
  refine x_bi (plc_x (by decide)) (fun x hx => ?_)
  have d8 := tdiv_n hx.1 (show (0 : Int) ≤ 16 by decide)
  have e8 : w64 (x.tdiv 16) = x.tdiv 16 := w64_n (by omega)
  have m12 := tmod_n d8.1 (show (0 : Int) < 12 by decide)
  rw [e8]
  refine x_bnd (x_bnd (x_ix m12.1 m12.2 (fun y _ => ?_)))
  have h4 : o.Refs.length ≤ 4 := by omega
  repeat (first
    | exact x_end h4
    | exact x_end (by show (o.Refs ++ [y]).length ≤ 4; rw [List.length_append]; simp; omega)
    | with_reducible refine x_as (show o.Refs.length ≤ 68719476736 by omega) ?_
    | with_reducible refine x_as (show (o.Refs ++ [y]).length ≤ 68719476736 by rw [List.length_append]; simp; omega) ?_
    | with_reducible refine x_cond ?_ ?_
    | with_reducible refine x_bnd ?_)
def GoodL (l : List GOp) : Prop := ∀ o ∈ l, okM o = true ∧ o.Refs.length ≤ 100
theorem back0 (m : GMaster) (hm : MasOk m) (l od : List Int) : ∀ (d k n : Nat) (acc : List GOp), k + d = 40 → d + 150 < n → acc.length ≤ k → GoodL acc → Ex (fun r : List GOp => r.length ≤ 40 ∧ GoodL r) (d_law05_OpsBack_L0 l od m n (k : Int) acc)
  | _, _, 0, _, _, hn, _, _ => by omega
  | 0, k, n + 1, acc, hk, hn, ha, hg => by
    rw [d_law05_OpsBack_L0]
    refine ⟨acc, v_bi (a := false) ?_ (v_cF rfl), by omega, hg⟩
    by_cases h : (k : Int) < (l.length : Int)
    · exact v_T h (v_cT (v_F (by omega) rfl))
    · exact v_F h (v_cF rfl)
  | d + 1, k, n + 1, acc, hk, hn, ha, hg => by
    rw [d_law05_OpsBack_L0]
    by_cases h : (k : Int) < (l.length : Int)
    case neg => exact ⟨acc, v_bi (a := false) (v_F h (v_cF rfl)) (v_cF rfl), by omega, hg⟩
    have hw : w64 ((k : Int) + 1) = ((k + 1 : Nat) : Int) := wrap64 (by omega)
    have ih := fun acc' h1 h2 => back0 m hm l od d (k + 1) n acc' (by omega) (by omega) h1 h2
    refine x_bi (Q := fun b => b = true) ⟨true, v_T h (v_cT (v_T (by omega) rfl)), rfl⟩ (fun b hb => ?_)
    subst hb
    show Ex _ (Option.bind _ _)
    refine x_bi (Q := fun r : List GOp => r.length ≤ k + 1 ∧ GoodL r) ?_ (fun r hr => ?_)
    · refine x_ix (by omega) h (fun v _ => ?_)
      refine x_bi (opn m hm v) (fun o ho => ?_)
      refine x_bnd (x_bi (Q := fun o : GOp => o.Refs.length ≤ 4) ?_ (fun o2 ho2 => ?_))
      · by_cases h2 : (k : Int) < (od.length : Int)
        · rw [decide_eq_true h2]
          exact x_ix (P := fun o : GOp => o.Refs.length ≤ 4) (by omega) h2 (fun w _ => x_bi (oddn o ho w) (fun o3 h3 => x_end h3))
        · rw [decide_eq_false h2]
          exact x_end (by omega)
      · have h1 := chkP (n := n) (o := o2) (Nat.le_trans ho2 (by decide)) (by omega)
        have h2 := chkD (n := n) (o := o2) (Nat.le_trans ho2 (by decide)) (by omega)
        refine x_bi (Q := fun b => b = okM o2) ⟨_, h1, rfl⟩ (fun b hb => ?_)
        subst hb
        refine x_bi (Q := fun b => b = okM o2) ⟨_, h2, rfl⟩ (fun b hb => ?_)
        subst hb
        rw [decide_eq_false (show ¬ (okM o2 ≠ okM o2) from fun h => h rfl)]
        refine x_bnd (x_as rfl (x_bi (Q := fun b => b = okM o2) ⟨_, h1, rfl⟩ (fun b hb => ?_)))
        subst hb
        cases hk2 : okM o2 with
        | false => exact x_end ⟨by omega, hg⟩
        | true =>
          refine x_bnd (x_as (by rw [List.length_append]; simp; omega) (x_end ⟨by rw [List.length_append]; simp; omega, fun o' ho' => ?_⟩))
          rcases List.mem_append.1 ho' with h' | h'
          · exact hg o' h'
          · rw [List.mem_singleton.1 h']; exact ⟨hk2, Nat.le_trans ho2 (by decide)⟩
    · refine x_bnd ?_
      rw [hw]
      exact ih r hr.1 hr.2
theorem opsBack_plain (v : Int) (l od : List Int) (cut : Int) : d_law05_OpsBack 1000 v l od cut = some true := by
  obtain ⟨m, h1, hm⟩ := mas v (n := 1000) (by omega)
  obtain ⟨g, h2, hl, hg⟩ := back0 m hm l od 40 0 1000 [] (by omega) (by omega) (Nat.le_refl _) (fun o ho => by cases ho)
  have hok : okAll g := fun o ho => ⟨Nat.le_trans (hg o ho).2 (by decide), (hg o ho).2⟩
  have hfit : ∀ o ∈ g, okM o = true ∧ Fits o := fun o ho => ⟨(hg o ho).1, okM_f (hok o ho).1 (hg o ho).1⟩
  have hB := bytesM_all (fun o ho => (hg o ho).1)
  have hBl : (bytesM g).length ≤ 200000 := by
    rw [hB, List.length_append]
    have h1 := enc_len (g.length : Int)
    have : ∀ (r : List GOp), (∀ o ∈ r, Fits o) → (r.flatMap opB).length ≤ 3011 * r.length := by
      intro r
      induction r with
      | nil => intro _; simp
      | cons o r ih =>
        intro h
        have h1 := opB_len (h o (List.mem_cons_self ..))
        have h2 := ih (fun o' h' => h o' (List.mem_cons_of_mem _ h'))
        rw [List.flatMap_cons, List.length_append, List.length_cons]; omega
    have h2 := this g (fun o ho => (hfit o ho).2)
    omega
  have hB0 : 0 < (bytesM g).length := by
    rw [hB, List.length_append]
    have : (enc (g.length : Int)).length ≠ 0 := fun h => enc_ne _ (List.eq_nil_of_length_eq_zero h)
    omega
  have hBn : bytesM g ≠ [] := fun e => by rw [e] at hB0; simp at hB0
  have hmax : (bytesM g).length ≤ 131071 := by
    rw [hB, List.length_append]
    have h1 := enc_len (g.length : Int)
    have : ∀ (r : List GOp), (∀ o ∈ r, Fits o) → (r.flatMap opB).length ≤ 3011 * r.length := by
      intro r
      induction r with
      | nil => intro _; simp
      | cons o r ih =>
        intro h
        have h1 := opB_len (h o (List.mem_cons_self ..))
        have h2 := ih (fun o' h' => h o' (List.mem_cons_of_mem _ h'))
        rw [List.flatMap_cons, List.length_append, List.length_cons]; omega
    have h2 := this g (fun o ho => (hfit o ho).2)
    omega
  obtain ⟨p, hp, hp2⟩ := plc_x (v := cut) (n := ((bytesM g).length : Int)) (by omega)
  have r1 : readM (bytesM g) = (g, 0) := by
    have := readM_enc (by omega) hfit []
    rw [List.append_nil] at this
    rw [hB, this]; rfl
  have r2 : readM ((bytesM g).take p.toNat) = ([], 3) := by
    rw [hB] at hp2 ⊢
    exact readM_cut (by omega) (fun o ho => (hfit o ho).2) (by omega)
  have r3 : readM (bytesM g ++ [120]) = ([], 3) := by
    rw [hB, List.append_assoc, readM_enc (by omega) hfit [120]]; rfl
  unfold d_law05_OpsBack
  refine v_bi h1 (v_bi h2 (v_bi (pBytes hok (by omega) (by omega)) (v_bi (pRead (by omega) (by decide)) ?_)))
  rw [r1]
  refine v_bi (a := false) (v_F hBn (v_cF (v_bi (rBytes hok (by omega) (by omega)) (v_F (by simp) (v_cF (v_F (show ¬ ((0 : Int) ≠ 0) by decide) (v_cF (v_bi (rSame g g (by omega) (fun o ho => (hok o ho).2) (by omega)) ?_)))))))) ?_
  · rw [decide_eq_true rfl]; rfl
  refine v_as rfl (v_bi hp (v_as (by omega) (v_bnd (v_bi (pRead (by rw [List.drop_zero, List.length_take]; omega) (by decide)) (v_as (by simp; omega) (v_bnd (v_bi (pRead (by rw [List.length_append]; simp; omega) (by decide)) ?_)))))))
  rw [List.drop_zero, r2, r3]
  exact v_bi (a := true) (v_T rfl (v_cT (v_T rfl (v_cT (v_bi aw05 rfl))))) rfl
end Go.Pv
set_option linter.unusedSimpArgs false
set_option linter.unusedVariables false
namespace Go.Pv
open Go.ChangeShapes Go.WideShapes Go.ChangeAt Go.RowKit
theorem walk_pp {P : Program} {f : FuncId} {args : List AV} {vs : Array Value} {w : World} (h : PP P f args (fun y => y = boo true)) (ha : AllR (s0 w) args vs) :
    Calls P f vs w fun e w' => e = .returned (.bool true) ∧ Below w.heap.size w w' := by
  refine (h (s0 w) vs (fun _ h => h) ⟨0, fun _ _ h => h⟩ ha).mono ?_
  rintro e w' ⟨y, s', v, rfl, _, rfl, rfl, h4, _, h6⟩
  have hv := h4.sc_inv
  subst hv
  exact ⟨rfl, ⟨h6.os, h6.tape, h6.output, h6.size, fun k hk => h6.keep k hk fun ⟨_, _, _, h, _⟩ => by cases h⟩⟩
end Go.Pv
