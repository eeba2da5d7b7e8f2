/- Plain laws: stock, vouchers, of any state. -/
import Derived.Test.YtiamgfjojjjggaaGreatL47
set_option linter.unusedSimpArgs false
set_option linter.unusedVariables false
namespace Go.Pv
open Go.Proofs
set_option maxRecDepth 100000
set_option maxHeartbeats 4000000
variable {n : Nat}
@[reducible] def stE (s : GState) (e : Int) (x : GEnt) : GState := ⟨s.Master, s.Ents.set e.toNat x, s.Receipts, s.Sales, s.Transits, s.Done⟩
structure At (s : GState) (e i : Int) (x : GEnt) (ms cs : List Int) (m c : Int) : Prop where
  e0 : 0 ≤ e
  hx : s.Ents[e.toNat]? = some x
  el : s.Ents.length ≤ 1000
  i0 : 0 ≤ i
  i1 : i < (s.Master.Weights.length : Int)
  wl : s.Master.Weights.length ≤ 1000
  hm : s.Master.Methods[e.toNat]? = some ms
  hc : s.Master.Costs[e.toNat]? = some cs
  ml : s.Master.Weights.length ≤ ms.length
  cl : s.Master.Weights.length ≤ cs.length
  him : ms[i.toNat]? = some m
  hic : cs[i.toNat]? = some c
  pl : s.Master.Weights.length * 2 ≤ x.Pools.length ∧ x.Pools.length ≤ 4000
  rl : s.Master.Weights.length ≤ x.Rolls.length ∧ x.Rolls.length ≤ 4000
theorem ltI {α : Type} {l : List α} {e : Int} {x : α} (h0 : 0 ≤ e) (h : l[e.toNat]? = some x) : e < (l.length : Int) := by
  have := (List.getElem?_eq_some_iff.1 h).1; omega
theorem At.set {s : GState} {e i : Int} {x x' : GEnt} {ms cs : List Int} {m c : Int} (h : At s e i x ms cs m c) (hp : x'.Pools.length = x.Pools.length) (hr : x'.Rolls.length = x.Rolls.length) : At (stE s e x') e i x' ms cs m c where
  e0 := h.e0
  hx := by
    have := ltI h.e0 h.hx
    show (s.Ents.set e.toNat x')[e.toNat]? = _
    rw [List.getElem?_set_self (by have := h.e0; omega)]
  el := by show (s.Ents.set e.toNat x').length ≤ 1000; rw [List.length_set]; exact h.el
  i0 := h.i0
  i1 := h.i1
  wl := h.wl
  hm := h.hm
  hc := h.hc
  ml := h.ml
  cl := h.cl
  him := h.him
  hic := h.hic
  pl := by rw [hp]; exact h.pl
  rl := by rw [hr]; exact h.rl
section
variable {s : GState} {e i : Int} {x : GEnt} {ms cs : List Int} {m c : Int}
theorem is_v (h : At s e i x ms cs m c) : d_stock_is s e i = some true := by
  have g1 := ltI h.e0 h.hx
  have g2 := ltI h.e0 h.hm
  have g3 := ltI h.e0 h.hc
  obtain ⟨e0, hx, el, i0, i1, wl, hm, hc, ml, cl, him, hic, pl, rl⟩ := h
  unfold d_stock_is
  repeat (first
    | with_reducible exact v_end
    | ((with_reducible refine v_fin ?_); (exact rfl))
    | ((with_reducible refine v_w ?_ ?_); · first | omega | decide | (dsimp only; omega) | (simp; done) | (simp; omega))
    | ((with_reducible refine v_wu ?_ ?_); · first | omega | decide | (dsimp only; omega) | (simp; done) | (simp; omega))
    | ((with_reducible refine v_T ?_ ?_); · first | omega | decide | (dsimp only; omega) | (simp; done) | (simp; omega) | (exact of_decide_eq_true rfl))
    | ((with_reducible refine v_F ?_ ?_); · first | omega | decide | (dsimp only; omega) | (simp; done) | (simp; omega) | (exact of_decide_eq_true rfl))
    | with_reducible refine v_nT ?_
    | with_reducible refine v_nF ?_
    | with_reducible refine v_cT ?_
    | with_reducible refine v_cF ?_
    | ((with_reducible refine v_as ?_ ?_); · first | omega | decide | (dsimp only; omega) | (simp; done) | (simp; omega) | (exact of_decide_eq_true rfl))
    | with_reducible refine v_ix e0 hx ?_
    | with_reducible refine v_ix e0 hm ?_
    | with_reducible refine v_ix e0 hc ?_
    | with_reducible refine v_ix i0 him ?_
    | with_reducible refine v_ix i0 hic ?_
    | ((with_reducible apply v_ix); (first | omega | decide | (simp; done) | (dsimp only [List.length_cons, List.length_nil]; omega)); (exact rfl))
    | with_reducible refine v_p2 ?_
    | with_reducible refine v_selb ?_
    | with_reducible refine v_sele ?_
    | with_reducible refine v_selrl ?_
    | with_reducible refine v_selrr ?_
    | ((with_reducible refine v_ifT ?_ ?_); · first | omega | decide | (dsimp only; omega))
    | ((with_reducible refine v_ifF ?_ ?_); · first | omega | decide | (dsimp only; omega))
    | with_reducible refine v_brk ?_
    | with_reducible refine v_esc ?_
    | dsimp only [List.nil_append, List.cons_append]
    | with_reducible apply v_bi
    | with_reducible refine v_bnd ?_)
theorem ready_v (h : At s e i x ms cs m c) (ho : x.Closed = false) : d_stock_Ready s e i = some 0 := by
  have h1 := is_v h
  unfold d_stock_Ready
  refine v_bi h1 (v_nT (v_as rfl (v_ix h.e0 h.hx (v_bnd ?_))))
  rw [ho]; rfl
theorem place_s (h : At s e i x ms cs m c) {k : Int} (hk : 0 ≤ k ∧ k ≤ 1) : d_stock_place s e i k = some (i * 2 + k) := by
  have h1 := is_v h
  have hin : d_stock_in k 0 1 = some true := by
    unfold d_stock_in
    repeat (first
      | with_reducible exact v_end
      | ((with_reducible refine v_fin ?_); (exact rfl))
      | ((with_reducible refine v_w ?_ ?_); · first | omega | decide | (dsimp only; omega) | (simp; done) | (simp; omega))
      | ((with_reducible refine v_wu ?_ ?_); · first | omega | decide | (dsimp only; omega) | (simp; done) | (simp; omega))
      | ((with_reducible refine v_T ?_ ?_); · first | omega | decide | (dsimp only; omega) | (simp; done) | (simp; omega) | (exact of_decide_eq_true rfl))
      | ((with_reducible refine v_F ?_ ?_); · first | omega | decide | (dsimp only; omega) | (simp; done) | (simp; omega) | (exact of_decide_eq_true rfl))
      | with_reducible refine v_nT ?_
      | with_reducible refine v_nF ?_
      | with_reducible refine v_cT ?_
      | with_reducible refine v_cF ?_
      | ((with_reducible refine v_as ?_ ?_); · first | omega | decide | (dsimp only; omega) | (simp; done) | (simp; omega) | (exact of_decide_eq_true rfl))
      | ((with_reducible apply v_ix); (first | omega | decide | (simp; done) | (dsimp only [List.length_cons, List.length_nil]; omega)); (exact rfl))
      | with_reducible refine v_p2 ?_
      | with_reducible refine v_selb ?_
      | with_reducible refine v_sele ?_
      | with_reducible refine v_selrl ?_
      | with_reducible refine v_selrr ?_
      | ((with_reducible refine v_ifT ?_ ?_); · first | omega | decide | (dsimp only; omega))
      | ((with_reducible refine v_ifF ?_ ?_); · first | omega | decide | (dsimp only; omega))
      | with_reducible refine v_brk ?_
      | with_reducible refine v_esc ?_
      | dsimp only [List.nil_append, List.cons_append]
      | with_reducible apply v_bi
      | with_reducible refine v_bnd ?_)
  have g1 := ltI h.e0 h.hx
  have g2 := ltI h.e0 h.hm
  have g3 := ltI h.e0 h.hc
  obtain ⟨e0, hx, el, i0, i1, wl, hm, hc, ml, cl, him, hic, pl, rl⟩ := h
  unfold d_stock_place
  repeat (first
    | with_reducible exact v_end
    | ((with_reducible refine v_fin ?_); (exact rfl))
    | ((with_reducible refine v_w ?_ ?_); · first | omega | decide | (dsimp only; omega) | (simp; done) | (simp; omega))
    | ((with_reducible refine v_wu ?_ ?_); · first | omega | decide | (dsimp only; omega) | (simp; done) | (simp; omega))
    | ((with_reducible refine v_T ?_ ?_); · first | omega | decide | (dsimp only; omega) | (simp; done) | (simp; omega) | (exact of_decide_eq_true rfl))
    | ((with_reducible refine v_F ?_ ?_); · first | omega | decide | (dsimp only; omega) | (simp; done) | (simp; omega) | (exact of_decide_eq_true rfl))
    | with_reducible refine v_nT ?_
    | with_reducible refine v_nF ?_
    | with_reducible refine v_cT ?_
    | with_reducible refine v_cF ?_
    | ((with_reducible refine v_as ?_ ?_); · first | omega | decide | (dsimp only; omega) | (simp; done) | (simp; omega) | (exact of_decide_eq_true rfl))
    | with_reducible refine v_ix e0 hx ?_
    | with_reducible refine v_ix e0 hm ?_
    | with_reducible refine v_ix e0 hc ?_
    | with_reducible refine v_ix i0 him ?_
    | with_reducible refine v_ix i0 hic ?_
    | ((with_reducible apply v_ix); (first | omega | decide | (simp; done) | (dsimp only [List.length_cons, List.length_nil]; omega)); (exact rfl))
    | with_reducible refine v_p2 ?_
    | with_reducible refine v_selb ?_
    | with_reducible refine v_sele ?_
    | with_reducible refine v_selrl ?_
    | with_reducible refine v_selrr ?_
    | ((with_reducible refine v_ifT ?_ ?_); · first | omega | decide | (dsimp only; omega))
    | ((with_reducible refine v_ifF ?_ ?_); · first | omega | decide | (dsimp only; omega))
    | with_reducible refine v_bi (h1) ?_
    | with_reducible refine v_bi (hin) ?_
    | with_reducible refine v_brk ?_
    | with_reducible refine v_esc ?_
    | dsimp only [List.nil_append, List.cons_append]
    | with_reducible apply v_bi
    | with_reducible refine v_bnd ?_)
theorem at_v (h : At s e i x ms cs m c) {k : Int} {p : GPool} (hk : 0 ≤ k ∧ k ≤ 1) (hp : x.Pools[(i * 2 + k).toNat]? = some p) (hl : p.Layers.length ≤ 1000) : d_stock_At s e i k = some p := by
  have h1 := place_s h hk
  have g1 := ltI h.e0 h.hx
  have g2 := ltI h.e0 h.hm
  have g3 := ltI h.e0 h.hc
  obtain ⟨e0, hx, el, i0, i1, wl, hm, hc, ml, cl, him, hic, pl, rl⟩ := h
  unfold d_stock_At
  repeat (first
    | with_reducible exact v_end
    | ((with_reducible refine v_fin ?_); (exact rfl))
    | ((with_reducible refine v_w ?_ ?_); · first | omega | decide | (dsimp only; omega) | (simp; done) | (simp; omega))
    | ((with_reducible refine v_wu ?_ ?_); · first | omega | decide | (dsimp only; omega) | (simp; done) | (simp; omega))
    | ((with_reducible refine v_T ?_ ?_); · first | omega | decide | (dsimp only; omega) | (simp; done) | (simp; omega) | (exact of_decide_eq_true rfl))
    | ((with_reducible refine v_F ?_ ?_); · first | omega | decide | (dsimp only; omega) | (simp; done) | (simp; omega) | (exact of_decide_eq_true rfl))
    | with_reducible refine v_nT ?_
    | with_reducible refine v_nF ?_
    | with_reducible refine v_cT ?_
    | with_reducible refine v_cF ?_
    | ((with_reducible refine v_as ?_ ?_); · first | omega | decide | (dsimp only; omega) | (simp; done) | (simp; omega) | (exact of_decide_eq_true rfl))
    | with_reducible refine v_ix e0 hx ?_
    | with_reducible refine v_ix e0 hm ?_
    | with_reducible refine v_ix e0 hc ?_
    | with_reducible refine v_ix i0 him ?_
    | with_reducible refine v_ix i0 hic ?_
    | with_reducible refine v_ix (by omega) hp ?_
    | ((with_reducible apply v_ix); (first | omega | decide | (simp; done) | (dsimp only [List.length_cons, List.length_nil]; omega)); (exact rfl))
    | with_reducible refine v_p2 ?_
    | with_reducible refine v_selb ?_
    | with_reducible refine v_sele ?_
    | with_reducible refine v_selrl ?_
    | with_reducible refine v_selrr ?_
    | ((with_reducible refine v_ifT ?_ ?_); · first | omega | decide | (dsimp only; omega))
    | ((with_reducible refine v_ifF ?_ ?_); · first | omega | decide | (dsimp only; omega))
    | with_reducible refine v_bi (h1) ?_
    | with_reducible refine v_brk ?_
    | with_reducible refine v_esc ?_
    | dsimp only [List.nil_append, List.cons_append]
    | with_reducible apply v_bi
    | with_reducible refine v_bnd ?_)
theorem worth_v (h : At s e i x ms cs m c) {p q : GPool} {a b : GLayer} (hp : x.Pools[(i * 2 + 0).toNat]? = some p) (hq : x.Pools[(i * 2 + (0 + 1)).toNat]? = some q) (lp : p.Layers.length ≤ 1000) (lq : q.Layers.length ≤ 1000)
    (ta : ∀ n, d_fifo_Total (n + 120) p.Layers = some (a, 0)) (tb : ∀ n, d_fifo_Total (n + 120) q.Layers = some (b, 0)) (s1 : Sm a.Qty ∧ Sm b.Qty ∧ Sm (a.Qty + b.Qty)) (s2 : Sm a.Value ∧ Sm b.Value ∧ Sm (a.Value + b.Value)) (s3 : Sm a.Profit ∧ Sm b.Profit ∧ Sm (a.Profit + b.Profit)) :
    d_stock_worth (n + 130) s e i = some (⟨0 + a.Qty + b.Qty, 0 + a.Value + b.Value, 0 + a.Profit + b.Profit⟩, true) := by
  have h0 := at_v h (k := 0) (by omega) hp lp
  have h1 := at_v h (k := 0 + 1) (by omega) hq lq
  unfold d_stock_worth
  repeat (first
    | with_reducible exact v_end
    | ((with_reducible refine v_fin ?_); (exact rfl))
    | ((with_reducible refine v_w ?_ ?_); · first | omega | decide | (dsimp only; omega) | (simp; done) | (simp; omega))
    | ((with_reducible refine v_wu ?_ ?_); · first | omega | decide | (dsimp only; omega) | (simp; done) | (simp; omega))
    | ((with_reducible refine v_T ?_ ?_); · first | omega | decide | (dsimp only; omega) | (simp; done) | (simp; omega) | (exact of_decide_eq_true rfl))
    | ((with_reducible refine v_F ?_ ?_); · first | omega | decide | (dsimp only; omega) | (simp; done) | (simp; omega) | (exact of_decide_eq_true rfl))
    | with_reducible refine v_nT ?_
    | with_reducible refine v_nF ?_
    | with_reducible refine v_cT ?_
    | with_reducible refine v_cF ?_
    | ((with_reducible refine v_as ?_ ?_); · first | omega | decide | (dsimp only; omega) | (simp; done) | (simp; omega) | (exact of_decide_eq_true rfl))
    | ((with_reducible apply v_ix); (first | omega | decide | (simp; done) | (dsimp only [List.length_cons, List.length_nil]; omega)); (exact rfl))
    | with_reducible refine v_p2 ?_
    | with_reducible refine v_selb ?_
    | with_reducible refine v_sele ?_
    | with_reducible refine v_selrl ?_
    | with_reducible refine v_selrr ?_
    | ((with_reducible refine v_ifT ?_ ?_); · first | omega | decide | (dsimp only; omega))
    | ((with_reducible refine v_ifF ?_ ?_); · first | omega | decide | (dsimp only; omega))
    | with_reducible refine v_bi (h0) ?_
    | with_reducible refine v_bi (h1) ?_
    | with_reducible refine v_bi (ta _) ?_
    | with_reducible refine v_bi (tb _) ?_
    | with_reducible refine v_bi (sum2 s1.1 s1.2.1 s1.2.2) ?_
    | with_reducible refine v_bi (sum2 s2.1 s2.2.1 s2.2.2) ?_
    | with_reducible refine v_bi (sum2 s3.1 s3.2.1 s3.2.2) ?_
    | with_reducible refine v_brk ?_
    | with_reducible refine v_esc ?_
    | dsimp only [List.nil_append, List.cons_append]
    | with_reducible apply v_bi
    | rw [d_stock_worth_L0]
    | with_reducible refine v_bnd ?_)
theorem sL1_0 {p : GPool} (h : p.Layers = []) (l : List Int) : d_stock_steady_L1 p (n + 120) 0 l = some l := by
  rw [d_stock_steady_L1, h]; rfl
theorem steady_v (h : At s e i x ms cs m c) {p q : GPool} {t : Int} {w0 w1 : List Int} (hp : x.Pools[(i * 2 + 0).toNat]? = some p) (hq : x.Pools[(i * 2 + (0 + 1)).toNat]? = some q) (lp : p.Layers.length ≤ 1000) (lq : q.Layers.length ≤ 1000)
    (u0 : ∀ n, d_stock_steady_L1 p (n + 120) 0 [] = some w0) (u1 : ∀ n, d_stock_steady_L1 q (n + 120) 0 w0 = some w1) (hs : ∀ n, d_money_Sum (n + 120) w1 = some (t, 0)) :
    d_stock_steady (n + 130) s e i = some true := by
  have h0 := at_v h (k := 0) (by omega) hp lp
  have h1 := at_v h (k := 0 + 1) (by omega) hq lq
  unfold d_stock_steady
  repeat (first
    | with_reducible exact v_end
    | ((with_reducible refine v_fin ?_); (exact rfl))
    | ((with_reducible refine v_w ?_ ?_); · first | omega | decide | (dsimp only; omega) | (simp; done) | (simp; omega))
    | ((with_reducible refine v_wu ?_ ?_); · first | omega | decide | (dsimp only; omega) | (simp; done) | (simp; omega))
    | ((with_reducible refine v_T ?_ ?_); · first | omega | decide | (dsimp only; omega) | (simp; done) | (simp; omega) | (exact of_decide_eq_true rfl))
    | ((with_reducible refine v_F ?_ ?_); · first | omega | decide | (dsimp only; omega) | (simp; done) | (simp; omega) | (exact of_decide_eq_true rfl))
    | with_reducible refine v_nT ?_
    | with_reducible refine v_nF ?_
    | with_reducible refine v_cT ?_
    | with_reducible refine v_cF ?_
    | ((with_reducible refine v_as ?_ ?_); · first | omega | decide | (dsimp only; omega) | (simp; done) | (simp; omega) | (exact of_decide_eq_true rfl))
    | ((with_reducible apply v_ix); (first | omega | decide | (simp; done) | (dsimp only [List.length_cons, List.length_nil]; omega)); (exact rfl))
    | with_reducible refine v_p2 ?_
    | with_reducible refine v_selb ?_
    | with_reducible refine v_sele ?_
    | with_reducible refine v_selrl ?_
    | with_reducible refine v_selrr ?_
    | ((with_reducible refine v_ifT ?_ ?_); · first | omega | decide | (dsimp only; omega))
    | ((with_reducible refine v_ifF ?_ ?_); · first | omega | decide | (dsimp only; omega))
    | with_reducible refine v_bi (h0) ?_
    | with_reducible refine v_bi (h1) ?_
    | with_reducible refine v_bi (u0 _) ?_
    | with_reducible refine v_bi (u1 _) ?_
    | with_reducible refine v_bi (hs _) ?_
    | with_reducible refine v_brk ?_
    | with_reducible refine v_esc ?_
    | dsimp only [List.nil_append, List.cons_append]
    | with_reducible apply v_bi
    | rw [d_stock_steady_L0]
    | with_reducible refine v_bnd ?_)
theorem bring_v (h : At s e i x ms cs m c) {k : Int} {l : GLayer} {p p' : GPool} {above : Int} {w : GLayer} (hk : 0 ≤ k ∧ k ≤ 1) (hp : x.Pools[(i * 2 + k).toNat]? = some p)
    (hin : d_pool_In (n + 130) m c p l = some (p', above, 0)) (hd : -9223372036854775808 ≤ l.Value - above ∧ l.Value - above ≤ 9223372036854775807)
    (hw : d_stock_worth (n + 130) (stE s e ⟨x.Now, x.Closed, x.Pools.set (i * 2 + k).toNat p', x.Bal, x.Rolls, x.Prices, x.Down, x.Ahead⟩) e i = some (w, true))
    (hst : d_stock_steady (n + 130) (stE s e ⟨x.Now, x.Closed, x.Pools.set (i * 2 + k).toNat p', x.Bal, x.Rolls, x.Prices, x.Down, x.Ahead⟩) e i = some true) :
    d_stock_Bring (n + 130) s e i k l = some (stE s e ⟨x.Now, x.Closed, x.Pools.set (i * 2 + k).toNat p', x.Bal, x.Rolls, x.Prices, x.Down, x.Ahead⟩, l.Value - above, above, 0) := by
  have h1 := place_s h hk
  have g1 := ltI h.e0 h.hx
  have g2 := ltI h.e0 h.hm
  have g3 := ltI h.e0 h.hc
  obtain ⟨e0, hx, el, i0, i1, wl, hm, hc, ml, cl, him, hic, pl, rl⟩ := h
  unfold d_stock_Bring
  repeat (first
    | with_reducible exact v_end
    | ((with_reducible refine v_fin ?_); (exact rfl))
    | ((with_reducible refine v_w ?_ ?_); · first | omega | decide | (dsimp only; omega) | (simp; done) | (simp; omega))
    | ((with_reducible refine v_wu ?_ ?_); · first | omega | decide | (dsimp only; omega) | (simp; done) | (simp; omega))
    | ((with_reducible refine v_T ?_ ?_); · first | omega | decide | (dsimp only; omega) | (simp; done) | (simp; omega) | (exact of_decide_eq_true rfl))
    | ((with_reducible refine v_F ?_ ?_); · first | omega | decide | (dsimp only; omega) | (simp; done) | (simp; omega) | (exact of_decide_eq_true rfl))
    | with_reducible refine v_nT ?_
    | with_reducible refine v_nF ?_
    | with_reducible refine v_cT ?_
    | with_reducible refine v_cF ?_
    | ((with_reducible refine v_as ?_ ?_); · first | omega | decide | (dsimp only; omega) | (simp; done) | (simp; omega) | (exact of_decide_eq_true rfl))
    | with_reducible refine v_ix e0 hx ?_
    | with_reducible refine v_ix e0 hm ?_
    | with_reducible refine v_ix e0 hc ?_
    | with_reducible refine v_ix i0 him ?_
    | with_reducible refine v_ix i0 hic ?_
    | with_reducible refine v_ix (by omega) hp ?_
    | ((with_reducible apply v_ix); (first | omega | decide | (simp; done) | (dsimp only [List.length_cons, List.length_nil]; omega)); (exact rfl))
    | with_reducible refine v_p2 ?_
    | with_reducible refine v_selb ?_
    | with_reducible refine v_sele ?_
    | with_reducible refine v_selrl ?_
    | with_reducible refine v_selrr ?_
    | ((with_reducible refine v_ifT ?_ ?_); · first | omega | decide | (dsimp only; omega))
    | ((with_reducible refine v_ifF ?_ ?_); · first | omega | decide | (dsimp only; omega))
    | with_reducible refine v_bi (h1) ?_
    | with_reducible refine v_bi (hin) ?_
    | with_reducible refine v_bi (hw) ?_
    | with_reducible refine v_bi (hst) ?_
    | with_reducible refine v_brk ?_
    | with_reducible refine v_esc ?_
    | dsimp only [List.nil_append, List.cons_append]
    | with_reducible apply v_bi
    | with_reducible refine v_bnd ?_)
theorem post_v {l l' : List GLine} {b' : List Int} (e0 : 0 ≤ e) (hx : s.Ents[e.toNat]? = some x) (el : s.Ents.length ≤ 1000) (hpl : d_voucher_Plain n l = some (l', 0)) (hgl : d_gl_Post n x.Bal l' = some (b', 0)) :
    d_stock_Post n s e l = some (stE s e ⟨x.Now, x.Closed, x.Pools, b', x.Rolls, x.Prices, x.Down, x.Ahead⟩, 0) := by
  have g1 := ltI e0 hx
  unfold d_stock_Post
  repeat (first
    | with_reducible exact v_end
    | ((with_reducible refine v_fin ?_); (exact rfl))
    | ((with_reducible refine v_w ?_ ?_); · first | omega | decide | (dsimp only; omega) | (simp; done) | (simp; omega))
    | ((with_reducible refine v_wu ?_ ?_); · first | omega | decide | (dsimp only; omega) | (simp; done) | (simp; omega))
    | ((with_reducible refine v_T ?_ ?_); · first | omega | decide | (dsimp only; omega) | (simp; done) | (simp; omega) | (exact of_decide_eq_true rfl))
    | ((with_reducible refine v_F ?_ ?_); · first | omega | decide | (dsimp only; omega) | (simp; done) | (simp; omega) | (exact of_decide_eq_true rfl))
    | with_reducible refine v_nT ?_
    | with_reducible refine v_nF ?_
    | with_reducible refine v_cT ?_
    | with_reducible refine v_cF ?_
    | ((with_reducible refine v_as ?_ ?_); · first | omega | decide | (dsimp only; omega) | (simp; done) | (simp; omega) | (exact of_decide_eq_true rfl))
    | with_reducible refine v_ix e0 hx ?_
    | ((with_reducible apply v_ix); (first | omega | decide | (simp; done) | (dsimp only [List.length_cons, List.length_nil]; omega)); (exact rfl))
    | with_reducible refine v_p2 ?_
    | with_reducible refine v_selb ?_
    | with_reducible refine v_sele ?_
    | with_reducible refine v_selrl ?_
    | with_reducible refine v_selrr ?_
    | ((with_reducible refine v_ifT ?_ ?_); · first | omega | decide | (dsimp only; omega))
    | ((with_reducible refine v_ifF ?_ ?_); · first | omega | decide | (dsimp only; omega))
    | with_reducible refine v_bi (hpl) ?_
    | with_reducible refine v_bi (hgl) ?_
    | with_reducible refine v_brk ?_
    | with_reducible refine v_esc ?_
    | dsimp only [List.nil_append, List.cons_append]
    | with_reducible apply v_bi
    | with_reducible refine v_bnd ?_)
theorem turn_v (h : At s e i x ms cs m c) {r1 r2 r3 r4 r5 r6 r7 r8 r9 r10 r11 q1 q2 q3 q4 q5 q6 q7 q8 q9 q10 q11 : Int} (hr : x.Rolls[i.toNat]? = some ⟨r1, r2, r3, r4, r5, r6, r7, r8, r9, r10, r11⟩) (hr1 : Sm r1 ∧ Sm q1 ∧ Sm (r1 + q1)) (hr2 : Sm r2 ∧ Sm q2 ∧ Sm (r2 + q2)) (hr3 : Sm r3 ∧ Sm q3 ∧ Sm (r3 + q3)) (hr4 : Sm r4 ∧ Sm q4 ∧ Sm (r4 + q4)) (hr5 : Sm r5 ∧ Sm q5 ∧ Sm (r5 + q5)) (hr6 : Sm r6 ∧ Sm q6 ∧ Sm (r6 + q6)) (hr7 : Sm r7 ∧ Sm q7 ∧ Sm (r7 + q7)) (hr8 : Sm r8 ∧ Sm q8 ∧ Sm (r8 + q8)) (hr9 : Sm r9 ∧ Sm q9 ∧ Sm (r9 + q9)) (hr10 : Sm r10 ∧ Sm q10 ∧ Sm (r10 + q10)) (hr11 : Sm r11 ∧ Sm q11 ∧ Sm (r11 + q11)) :
    d_stock_Turn s e i ⟨q1, q2, q3, q4, q5, q6, q7, q8, q9, q10, q11⟩ = some (stE s e ⟨x.Now, x.Closed, x.Pools, x.Bal, x.Rolls.set i.toNat ⟨r1 + q1, r2 + q2, r3 + q3, r4 + q4, r5 + q5, r6 + q6, r7 + q7, r8 + q8, r9 + q9, r10 + q10, r11 + q11⟩, x.Prices, x.Down, x.Ahead⟩, 0) := by
  have h1 := is_v h
  have g1 := ltI h.e0 h.hx
  have g2 := ltI h.e0 h.hm
  have g3 := ltI h.e0 h.hc
  obtain ⟨e0, hx, el, i0, i1, wl, hm, hc, ml, cl, him, hic, pl, rl⟩ := h
  unfold d_stock_Turn
  repeat (first
    | with_reducible exact v_end
    | ((with_reducible refine v_fin ?_); (exact rfl))
    | ((with_reducible refine v_w ?_ ?_); · first | omega | decide | (dsimp only; omega) | (simp; done) | (simp; omega))
    | ((with_reducible refine v_wu ?_ ?_); · first | omega | decide | (dsimp only; omega) | (simp; done) | (simp; omega))
    | ((with_reducible refine v_T ?_ ?_); · first | omega | decide | (dsimp only; omega) | (simp; done) | (simp; omega) | (exact of_decide_eq_true rfl))
    | ((with_reducible refine v_F ?_ ?_); · first | omega | decide | (dsimp only; omega) | (simp; done) | (simp; omega) | (exact of_decide_eq_true rfl))
    | with_reducible refine v_nT ?_
    | with_reducible refine v_nF ?_
    | with_reducible refine v_cT ?_
    | with_reducible refine v_cF ?_
    | ((with_reducible refine v_as ?_ ?_); · first | omega | decide | (dsimp only; omega) | (simp; done) | (simp; omega) | (exact of_decide_eq_true rfl))
    | with_reducible refine v_ix e0 hx ?_
    | with_reducible refine v_ix e0 hm ?_
    | with_reducible refine v_ix e0 hc ?_
    | with_reducible refine v_ix i0 him ?_
    | with_reducible refine v_ix i0 hic ?_
    | with_reducible refine v_ix i0 hr ?_
    | ((with_reducible apply v_ix); (first | omega | decide | (simp; done) | (dsimp only [List.length_cons, List.length_nil]; omega)); (exact rfl))
    | with_reducible refine v_p2 ?_
    | with_reducible refine v_selb ?_
    | with_reducible refine v_sele ?_
    | with_reducible refine v_selrl ?_
    | with_reducible refine v_selrr ?_
    | ((with_reducible refine v_ifT ?_ ?_); · first | omega | decide | (dsimp only; omega))
    | ((with_reducible refine v_ifF ?_ ?_); · first | omega | decide | (dsimp only; omega))
    | with_reducible refine v_bi (h1) ?_
    | with_reducible refine v_bi (add_v hr1.1 hr1.2.1 hr1.2.2) ?_
    | with_reducible refine v_bi (add_v hr2.1 hr2.2.1 hr2.2.2) ?_
    | with_reducible refine v_bi (add_v hr3.1 hr3.2.1 hr3.2.2) ?_
    | with_reducible refine v_bi (add_v hr4.1 hr4.2.1 hr4.2.2) ?_
    | with_reducible refine v_bi (add_v hr5.1 hr5.2.1 hr5.2.2) ?_
    | with_reducible refine v_bi (add_v hr6.1 hr6.2.1 hr6.2.2) ?_
    | with_reducible refine v_bi (add_v hr7.1 hr7.2.1 hr7.2.2) ?_
    | with_reducible refine v_bi (add_v hr8.1 hr8.2.1 hr8.2.2) ?_
    | with_reducible refine v_bi (add_v hr9.1 hr9.2.1 hr9.2.2) ?_
    | with_reducible refine v_bi (add_v hr10.1 hr10.2.1 hr10.2.2) ?_
    | with_reducible refine v_bi (add_v hr11.1 hr11.2.1 hr11.2.2) ?_
    | with_reducible refine v_brk ?_
    | with_reducible refine v_esc ?_
    | dsimp only [List.nil_append, List.cons_append]
    | with_reducible apply v_bi
    | with_reducible refine v_bnd ?_)
end
end Go.Pv
