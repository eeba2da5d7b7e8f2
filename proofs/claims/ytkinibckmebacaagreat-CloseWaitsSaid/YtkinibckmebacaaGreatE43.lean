/- CloseWaits: its states, a receipt. -/
import Derived.Test.YtkinibckmebacaaGreatU43
set_option linter.unusedSimpArgs false
set_option linter.unusedVariables false
namespace Go.Pv
open Go.Proofs
set_option maxRecDepth 100000
set_option maxHeartbeats 4000000
theorem blk {α : Type} (a b : Bool) (f : Bool → Option α) : ((bnd a fun x => cond x (some true) (bnd b fun y => some y)).bind f) = f (a || b) := by cases a <;> cases b <;> rfl
theorem asc0 {α : Type} (a : Bool) (k : Option α) : asrt (a = false) k = cond a none k := by cases a <;> rfl
theorem chkR (q v : Int) : d_ops_Check ⟨1, 0, 0, 0, 0, q, v, 0, []⟩ = cond (decide (q < 1) || decide (q > 1073741824)) none (cond (decide (v < 0) || decide (v > 1125899906842624)) none (some true)) := by
  unfold d_ops_Check
  simp only [blk, asc0]
  show _ = _
  kernel_rfl
theorem chkS (q v : Int) : d_ops_Check ⟨4, 0, 0, 0, 0, q, v, 0, []⟩ = cond (decide (q < 1) || decide (q > 1073741824)) none (cond (decide (v < 0) || decide (v > 1125899906842624)) none (some true)) := by
  unfold d_ops_Check
  simp only [blk, asc0]
  show _ = _
  kernel_rfl
theorem chkC : d_ops_Check ⟨14, 0, 0, 0, 0, 0, 0, 0, []⟩ = some true := by kernel_rfl
theorem chkR' {q v : Int} (hq : 1 ≤ q ∧ q ≤ 1000) (hv : 0 ≤ v ∧ v ≤ 1000) : d_ops_Check ⟨1, 0, 0, 0, 0, q, v, 0, []⟩ = some true := by
  rw [chkR, show (decide (q < 1) || decide (q > 1073741824)) = false by simp; omega, show (decide (v < 0) || decide (v > 1125899906842624)) = false by simp; omega]; rfl
theorem chkS' {q v : Int} (hq : 1 ≤ q ∧ q ≤ 1000) (hv : 0 ≤ v ∧ v ≤ 1000) : d_ops_Check ⟨4, 0, 0, 0, 0, q, v, 0, []⟩ = some true := by
  rw [chkS, show (decide (q < 1) || decide (q > 1073741824)) = false by simp; omega, show (decide (v < 0) || decide (v > 1125899906842624)) = false by simp; omega]; rfl
def lay (q v : Int) : List GLayer := if q = 0 then [] else [⟨q, v, 0⟩]
def mm : GMaster := ⟨1, 2, [1], [[3]], [[0]]⟩
def en (q v g b c d : Int) : GEnt := ⟨1, false, [⟨lay q v, ⟨g, 0, 0⟩⟩, ⟨[], ⟨0, 0, 0⟩⟩], [v, b, 0, c, d, 0, 0, 0, 0, 0, 0, 0, 0, 0, 0, 0, 0], [⟨0, v, 0, 0, 0, 0, 0, 0, 0, 0, 0⟩], [-1], [0], []⟩
def sW (x : GEnt) (rc : List GReceipt) (sl : List GSale) (dn : Int) : GState := ⟨mm, [x], rc, sl, [], dn⟩
theorem start43 : d_ref04_Start 300 mm = some (sW (en 0 0 0 0 0 0) [] [] 0, 0) := by kernel_rfl
structure Nm (q v g : Int) (b c d : Int) : Prop where
  hq : 0 ≤ q ∧ q ≤ 240
  hv : 0 ≤ v ∧ v ≤ 12000
  hz : q = 0 → v = 0
  hg : 0 ≤ g ∧ g ≤ q
  hb : -1000000 ≤ b ∧ b ≤ 1000000
  hc : -1000000 ≤ c ∧ c ≤ 1000000
  hd : -1000000 ≤ d ∧ d ≤ 1000000
theorem atW (x : GEnt) (hp : x.Pools.length = 2) (hr : x.Rolls.length = 1) (rc : List GReceipt) (sl : List GSale) (dn : Int) : At (sW x rc sl dn) 0 0 x [3] [0] 3 0 := ⟨by decide, rfl, by simp [sW], by decide, by simp [sW, mm], by simp [sW, mm], rfl, rfl, by simp [sW, mm], by simp [sW, mm], rfl, rfl, by simp [sW, mm, hp], by simp [sW, mm, hr]⟩
theorem layOk {q v : Int} (hq : 0 ≤ q) (hv : 0 ≤ v) (hz : q = 0 → v = 0) : LOk (lay q v) ∧ sq (lay q v) = q ∧ sv (lay q v) = v ∧ (lay q v).length ≤ 1 := by
  unfold lay
  by_cases h : q = 0
  · rw [if_pos h]; have := hz h; subst h; subst this; exact ⟨fun x hx => (by cases hx), rfl, rfl, by simp⟩
  · rw [if_neg h]
    refine ⟨fun x hx => ?_, by simp [sq], by simp [sv], by simp⟩
    rw [List.mem_singleton.1 hx]; exact ⟨by show 1 ≤ q; omega, hv, rfl⟩
theorem finL {l : List GLayer} (h : LOk l) (hl : l.length < 30) {q v : Int} (q1 : 1 ≤ q) (v1 : 0 ≤ v) (hq : sq l + q ≤ 1000000000) (hv : sv l + v ≤ 1000000000) {n : Nat} (hn : 100 < n) : d_fifo_In n l ⟨q, v, 0⟩ = some (l ++ [⟨q, v, 0⟩], 0) := by
  have hr := rgtL (h.app q1 v1) (by simp; omega) (by rw [sq_app]; simp only [sq]; omega) (by rw [sv_app]; simp only [sv]; omega) hn
  unfold d_fifo_In
  exact v_as (by omega) (v_bi (a := false) (v_F (by dsimp only; omega) (v_cF (v_F (by dsimp only; omega) rfl))) (v_as rfl (v_F (by omega) (v_as rfl (v_as (by omega) (v_bnd (v_as (by simp; omega) (v_bi hr (v_nT (v_as rfl rfl))))))))))
theorem minL {l : List GLayer} (h : LOk l) (hl : l.length < 30) {q v : Int} (q1 : 1 ≤ q) (v1 : 0 ≤ v) (hq : sq l + q ≤ 1000000000) (hv : sv l + v ≤ 1000000000) {n : Nat} (hn : 100 < n) : d_mavg_In n l ⟨q, v, 0⟩ = some ([⟨sq l + q, sv l + v, 0⟩], 0) := by
  have ht := totL (h.app q1 v1) (by simp; omega) (by rw [sq_app]; simp only [sq]; omega) (by rw [sv_app]; simp only [sv]; omega) hn
  rw [sq_app, sv_app] at ht
  simp only [sq, sv, Int.add_zero] at ht
  unfold d_mavg_In
  exact v_bi rfl (v_bi (finL h hl q1 v1 hq hv hn) (v_F (show ¬ ((0 : Int) ≠ 0) by decide) (v_as rfl (v_bi rfl (v_bi ht (v_F (show ¬ ((0 : Int) ≠ 0) by decide) (v_as rfl rfl)))))))
theorem pinP {q v g b c d q1 v1 : Int} (h : Nm q v g b c d) (hq : 1 ≤ q1 ∧ q1 ≤ 20) (hv : 0 ≤ v1 ∧ v1 ≤ 1000) {n : Nat} (hn : 100 < n) : d_pool_In n 3 0 ⟨lay q v, ⟨g, 0, 0⟩⟩ ⟨q1, v1, 0⟩ = some (⟨lay (q + q1) (v + v1), ⟨g, 0, 0⟩⟩, 0, 0) := by
  have hq0 := h.hq; have hv0 := h.hv
  obtain ⟨k1, k2, k3, k4⟩ := layOk h.hq.1 h.hv.1 h.hz
  have h1 := minL k1 (by omega) hq.1 hv.1 (by omega) (by omega) hn
  rw [k2, k3] at h1
  have e : lay (q + q1) (v + v1) = [⟨q + q1, v + v1, 0⟩] := by unfold lay; rw [if_neg (by omega)]
  rw [e]
  have h2 : d_pavg_In n ⟨lay q v, ⟨g, 0, 0⟩⟩ ⟨q1, v1, 0⟩ = some (⟨[⟨q + q1, v + v1, 0⟩], ⟨g, 0, 0⟩⟩, 0) := by
    unfold d_pavg_In d_pavg_own
    exact v_bi h1 (v_bi (v_as (by simp) rfl) rfl)
  unfold d_pool_In
  refine v_bi (a := .inr ()) (v_F (by decide) (v_as rfl (v_F (by decide) (v_as rfl (v_T rfl (v_cT rfl)))))) ?_
  refine v_selrr ?_
  refine v_bi (v_bi h2 rfl) ?_
  refine v_p2 ?_
  exact v_F (show ¬ ((0 : Int) ≠ 0) by decide) (v_as rfl rfl)
theorem rcvW {q v g b c d q1 v1 : Int} (h : Nm q v g b c d) (hq : 1 ≤ q1 ∧ q1 ≤ 20) (hv : 0 ≤ v1 ∧ v1 ≤ 1000) {rc : List GReceipt} {sl : List GSale} {dn : Int} (hr : rc.length < 40) {n : Nat} :
    d_receive_Do (n + 200) (sW (en q v g b c d) rc sl dn) ⟨1, 0, 0, 0, 0, q1, v1, 0, []⟩ = some (sW (en (q + q1) (v + v1) g (b + (0 - v1)) c d) (rc ++ [⟨0, 0, 0, q1, v1, q1, v1, 0⟩]) sl dn, 0) := by
  have hq0 := h.hq; have hv0 := h.hv; have hb := h.hb; have hz := h.hz
  have hA := atW (en q v g b c d) rfl rfl rc sl dn
  have hp := pinP h hq hv (n := n + 200) (by omega)
  have hA1 := hA.set (x' := ⟨1, false, [⟨lay (q + q1) (v + v1), ⟨g, 0, 0⟩⟩, ⟨[], ⟨0, 0, 0⟩⟩], (en q v g b c d).Bal, (en q v g b c d).Rolls, [-1], [0], []⟩) rfl rfl
  obtain ⟨k1, k2, k3, k4⟩ := layOk (q := q + q1) (v := v + v1) (by omega) (by omega) (by omega)
  have t1 : ∀ n, d_fifo_Total (n + 120) (lay (q + q1) (v + v1)) = some (⟨q + q1, v + v1, 0⟩, 0) := fun n => by
    have := totL k1 (by omega) (by omega) (by omega) (n := n + 120) (by omega)
    rwa [k2, k3] at this
  have t0 : ∀ n, d_fifo_Total (n + 120) [] = some (⟨0, 0, 0⟩, 0) := fun n => totL (fun x hx => by cases hx) (by simp) (by simp [sq]) (by simp [sv]) (n := n + 120) (by omega)
  have ms0 : ∀ n, d_money_Sum (n + 120) [0] = some (0, 0) := fun n => sumS (l := [0]) (fun x hx => by rw [List.mem_singleton.1 hx]; omega) (by simp) (by simp [sm]) (by simp)
  have hle : lay (q + q1) (v + v1) = [⟨q + q1, v + v1, 0⟩] := by unfold lay; rw [if_neg (by omega)]
  have hw := worth_v (n := n + 70) hA1 (p := ⟨lay (q + q1) (v + v1), ⟨g, 0, 0⟩⟩) (q := ⟨[], ⟨0, 0, 0⟩⟩) rfl rfl (by dsimp only; omega) (by simp) t1 t0 (by dsimp only; omega) (by dsimp only; omega) (by dsimp only; omega)
  have hst := steady_v (n := n + 70) hA1 (p := ⟨lay (q + q1) (v + v1), ⟨g, 0, 0⟩⟩) (q := ⟨[], ⟨0, 0, 0⟩⟩) rfl rfl (by dsimp only; omega) (by simp) (fun n => sL1_1 hle (by simp)) (fun n => sL1_0 rfl _) ms0
  have hbr := bring_v (n := n + 70) hA (k := 0) (l := ⟨q1, v1, 0⟩) (p := ⟨lay q v, ⟨g, 0, 0⟩⟩) (by omega) rfl hp (by dsimp only; omega) hw hst
  have hsub : v1 - 0 = v1 := by omega
  have ex : (stE (sW (en q v g b c d) rc sl dn) 0 ⟨1, false, [⟨lay (q + q1) (v + v1), ⟨g, 0, 0⟩⟩, ⟨[], ⟨0, 0, 0⟩⟩], (en q v g b c d).Bal, (en q v g b c d).Rolls, [-1], [0], []⟩).Ents[(0 : Int).toNat]? = some ⟨1, false, [⟨lay (q + q1) (v + v1), ⟨g, 0, 0⟩⟩, ⟨[], ⟨0, 0, 0⟩⟩], (en q v g b c d).Bal, (en q v g b c d).Rolls, [-1], [0], []⟩ := rfl
  have el : (stE (sW (en q v g b c d) rc sl dn) 0 ⟨1, false, [⟨lay (q + q1) (v + v1), ⟨g, 0, 0⟩⟩, ⟨[], ⟨0, 0, 0⟩⟩], (en q v g b c d).Bal, (en q v g b c d).Rolls, [-1], [0], []⟩).Ents.length ≤ 1000 := by simp [sW]
  have hpo : d_stock_Post (n + 200) (stE (sW (en q v g b c d) rc sl dn) 0 ⟨1, false, [⟨lay (q + q1) (v + v1), ⟨g, 0, 0⟩⟩, ⟨[], ⟨0, 0, 0⟩⟩], (en q v g b c d).Bal, (en q v g b c d).Rolls, [-1], [0], []⟩) 0 [⟨0, v1 - 0⟩, ⟨6, 0⟩, ⟨1, 0 - v1⟩] =
      some (sW ⟨1, false, [⟨lay (q + q1) (v + v1), ⟨g, 0, 0⟩⟩, ⟨[], ⟨0, 0, 0⟩⟩], [v + v1, b + (0 - v1), 0, c, d, 0, 0, 0, 0, 0, 0, 0, 0, 0, 0, 0, 0], (en q v g b c d).Rolls, [-1], [0], []⟩ rc sl dn, 0) := by
    rw [hsub]
    by_cases h0 : v1 = 0
    · refine (post_v (by decide) ex el (plB (n := n + 188) (by omega) (by omega) (by omega) h0 rfl (by omega)) (glB (n := n + 186) rfl)).trans ?_
      subst h0
      rw [Int.add_zero, show b + (0 - 0) = b by omega]; rfl
    · exact post_v (by decide) ex el (plA (n := n + 188) (by omega) (by omega) (by omega) h0 rfl (by omega)) (glA (n := n + 186) rfl rfl (by omega) rfl (by omega) h0 (by omega) (by omega))
  have hA2 := atW ⟨1, false, [⟨lay (q + q1) (v + v1), ⟨g, 0, 0⟩⟩, ⟨[], ⟨0, 0, 0⟩⟩], [v + v1, b + (0 - v1), 0, c, d, 0, 0, 0, 0, 0, 0, 0, 0, 0, 0, 0, 0], (en q v g b c d).Rolls, [-1], [0], []⟩ rfl rfl rc sl dn
  have htu := turn_v hA2 (r1 := 0) (r2 := v) (r3 := 0) (r4 := 0) (r5 := 0) (r6 := 0) (r7 := 0) (r8 := 0) (r9 := 0) (r10 := 0) (r11 := 0) (q1 := 0) (q2 := v1 - 0) (q3 := 0) (q4 := 0) (q5 := 0) (q6 := 0) (q7 := 0) (q8 := 0) (q9 := 0) (q10 := 0) (q11 := 0) rfl (by omega) (by omega) (by omega) (by omega) (by omega) (by omega) (by omega) (by omega) (by omega) (by omega) (by omega)
  refine (receive_v (ready_v hA rfl) hr hbr (by omega) hpo htu (by show rc.length ≤ 1000; omega)).trans ?_
  rw [hsub]
  rfl
theorem n14 {k : Int} (h : k = 1 ∨ k = 4) : ¬ k = 14 ∧ ¬ k = 15 ∧ ¬ k = 16 := by omega
theorem stepA {s s' : GState} {o : GOp} {f : Int} {n : Nat} (hk : o.Kind = 1 ∨ o.Kind = 4) (hc : d_ops_Check o = some true) (ha : d_apply_Do n s o = some (s', f)) : d_close_Step n s o = some (s', f) := by
  have h := n14 hk
  unfold d_close_Step
  exact v_bi hc (v_nT (v_as rfl (v_F h.1 (v_cF (v_F h.2.1 (v_as rfl (v_F h.2.2 (v_as rfl (v_bi ha rfl)))))))))
theorem appR {q v g b c d q1 v1 : Int} (h : Nm q v g b c d) (hq : 1 ≤ q1 ∧ q1 ≤ 20) (hv : 0 ≤ v1 ∧ v1 ≤ 1000) {rc : List GReceipt} {sl : List GSale} {dn : Int} (hr : rc.length < 40) (hd : 0 ≤ dn ∧ dn ≤ 1000) {n : Nat} :
    d_close_Step (n + 200) (sW (en q v g b c d) rc sl dn) ⟨1, 0, 0, 0, 0, q1, v1, 0, []⟩ = some (sW (en (q + q1) (v + v1) g (b + (0 - v1)) c d) (rc ++ [⟨0, 0, 0, q1, v1, q1, v1, 0⟩]) sl (dn + 1), 0) := by
  have hc := chkR' (q := q1) (v := v1) (by omega) hv
  have hr := rcvW h hq hv (sl := sl) (dn := dn) hr (n := n)
  refine stepA (.inl rfl) hc ?_
  have hw : -9223372036854775808 ≤ dn + 1 ∧ dn + 1 ≤ 9223372036854775807 := by omega
  unfold d_apply_Do
  refine v_bi (a := .inr (.inr ())) (v_T rfl (v_cT rfl)) ?_
  refine v_selrr ?_
  refine v_selrr ?_
  refine v_bi (a := false) (v_bi hc (v_nT (v_cF rfl))) ?_
  refine v_as rfl ?_
  refine v_bi (v_bi hr rfl) ?_
  refine v_p2 ?_
  refine v_F (show ¬ ((0 : Int) ≠ 0) by decide) (v_cF (v_w hw ?_))
  show bnd (if (288230376151711744 : Int) < dn + 1 then 288230376151711744 else dn + 1) _ = _
  rw [if_neg (by omega)]
  rfl
end Go.Pv
