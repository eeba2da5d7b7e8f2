/- StockErrors: the plain law. -/
import Derived.Test.YtogdmdlpnhbjkaaGreatN46
set_option linter.unusedSimpArgs false
set_option linter.unusedVariables false
namespace Go.Pv
set_option maxRecDepth 100000
set_option maxHeartbeats 1000000
theorem aw : d_law14_awake 1000 = some true := by decide +kernel
@[reducible] def zS (m : GMaster) (E N : Nat) : GState := ⟨m, List.replicate E (ent0 N), [], [], [], 0⟩
theorem stV {m : GMaster} {E N : Nat} (h : MOk m E N) : d_law00_State 1000 m [] = some (zS m E N) := by
  unfold d_law00_State
  refine v_bi (startV h (by omega)) (v_bi (a := []) ?_ (v_bi (a := ()) rfl rfl))
  unfold d_law00_Ops
  exact v_bi (a := ()) rfl rfl
theorem gI {α : Type} {l : List α} {e : Int} (h0 : 0 ≤ e) (h : e < (l.length : Int)) : ∃ x, l[e.toNat]? = some x ∧ x ∈ l :=
  ⟨l[e.toNat]'(by omega), List.getElem?_eq_getElem (by omega), List.getElem_mem _⟩
theorem repI {α : Type} {n : Nat} {x : α} {e : Int} (h0 : 0 ≤ e) (h : e < (n : Int)) : (List.replicate n x)[e.toNat]? = some x := by
  rw [List.getElem?_replicate, if_pos (by omega)]
theorem atV {m : GMaster} {E N : Nat} (h : MOk m E N) {e i : Int} (he : 0 ≤ e ∧ e < (E : Int)) (hi : 0 ≤ i ∧ i < (N : Int)) : ∃ ms cs mt c, At (zS m E N) e i (ent0 N) ms cs mt c ∧ (1 ≤ mt ∧ mt ≤ 4) ∧ (0 ≤ c ∧ c ≤ 39) := by
  have h2 := h.e2; have h3 := h.n2; have hw := h.w.1; have hml := h.ms.1; have hcl := h.cs.1
  obtain ⟨ms, a1, a2⟩ := gI (l := m.Methods) he.1 (by omega)
  obtain ⟨cs, b1, b2⟩ := gI (l := m.Costs) he.1 (by omega)
  have a3 := h.ms.2 ms a2; have b3 := h.cs.2 cs b2
  have a4 := a3.1; have b4 := b3.1
  obtain ⟨mt, a5, a6⟩ := gI (l := ms) hi.1 (by omega)
  obtain ⟨c, b5, b6⟩ := gI (l := cs) hi.1 (by omega)
  exact ⟨ms, cs, mt, c, ⟨he.1, repI he.1 he.2, by rw [List.length_replicate]; omega, hi.1, by dsimp only; omega, by dsimp only; omega, a1, b1, by dsimp only; omega, by dsimp only; omega, a5, b5, by simp only [ent0, List.length_replicate]; omega, by simp only [ent0, List.length_replicate]; omega⟩, a3.2 mt a6, b3.2 c b6⟩
@[reducible] def entP (N : Nat) (j : Nat) (p : GPool) : GEnt := ⟨1, false, (List.replicate (N * 2) zs).set j p, List.replicate 17 0, List.replicate N ⟨0, 0, 0, 0, 0, 0, 0, 0, 0, 0, 0⟩, List.replicate N (-1), List.replicate N 0, []⟩
section
variable {m : GMaster} {E N : Nat} {e i k : Int} {ms cs : List Int} {mt c : Int}
theorem bringV (hN : N ≤ 4) (h : At (zS m E N) e i (ent0 N) ms cs mt c) (hm : 1 ≤ mt ∧ mt ≤ 4) (hc : 0 ≤ c ∧ c ≤ 39) (hi : i < (N : Int)) (hk : 0 ≤ k ∧ k ≤ 1) :
    d_stock_Bring 1000 (zS m E N) e i k ⟨1, 5, 0⟩ = some (stE (zS m E N) e (entP N (i * 2 + k).toNat ⟨[⟨1, car5 mt c, 0⟩], ⟨0, 0, 0⟩⟩), 5 - (5 - car5 mt c), 5 - car5 mt c, 0) := by
  have h0 := h.i0
  have hcr : 0 ≤ car5 mt c ∧ car5 mt c ≤ 39 := by unfold car5; split <;> omega
  have hp : (ent0 N).Pools[(i * 2 + k).toNat]? = some zs := repI (by omega) (by omega)
  have hin := pinE hm (show 0 ≤ c ∧ c ≤ 1000 by omega) (n := 870 + 130) (by omega)
  generalize car5 mt c = cr at *
  have lok : LOk [⟨1, cr, 0⟩] := fun x hx => by rw [List.mem_singleton.1 hx]; exact ⟨(by show (1:Int) ≤ 1; decide), hcr.1, rfl⟩
  have h' := h.set (x' := entP N (i * 2 + k).toNat ⟨[⟨1, cr, 0⟩], ⟨0, 0, 0⟩⟩) (by simp [ent0]) rfl
  have t1 : ∀ n, d_fifo_Total (n + 120) [⟨1, cr, 0⟩] = some (⟨1, cr, 0⟩, 0) := fun n => by
    have := totL lok (by simp) (by simp [sq]) (by simp only [sv]; omega) (n := n + 120) (by omega)
    simpa only [sq, sv, Int.add_zero] using this
  have t0 : ∀ n, d_fifo_Total (n + 120) [] = some (⟨0, 0, 0⟩, 0) := fun n => totL (fun x hx => by cases hx) (by simp) (by simp [sq]) (by simp [sv]) (n := n + 120) (by omega)
  have ms0 : ∀ n, d_money_Sum (n + 120) [0] = some (0, 0) := fun n => sumS (l := [0]) (fun x hx => by rw [List.mem_singleton.1 hx]; omega) (by simp) (by simp [sm]) (by simp)
  have hkk : k = 0 ∨ k = 1 := by omega
  have key : (∃ w, d_stock_worth (870 + 130) (stE (zS m E N) e (entP N (i * 2 + k).toNat ⟨[⟨1, cr, 0⟩], ⟨0, 0, 0⟩⟩)) e i = some (w, true)) ∧ d_stock_steady (870 + 130) (stE (zS m E N) e (entP N (i * 2 + k).toNat ⟨[⟨1, cr, 0⟩], ⟨0, 0, 0⟩⟩)) e i = some true := by
    rcases hkk with rfl | rfl
    · have p0 : (entP N (i * 2 + 0).toNat ⟨[⟨1, cr, 0⟩], ⟨0, 0, 0⟩⟩).Pools[(i * 2 + 0).toNat]? = some ⟨[⟨1, cr, 0⟩], ⟨0, 0, 0⟩⟩ := List.getElem?_set_self (by rw [List.length_replicate]; omega)
      have p1 : (entP N (i * 2 + 0).toNat ⟨[⟨1, cr, 0⟩], ⟨0, 0, 0⟩⟩).Pools[(i * 2 + (0 + 1)).toNat]? = some zs := by
        show (List.set _ _ _)[_]? = _
        rw [List.getElem?_set_ne (by omega)]; exact repI (by omega) (by omega)
      exact ⟨⟨_, worth_v h' p0 p1 (by simp) (by simp) t1 t0 (by dsimp only; omega) (by dsimp only; omega) (by dsimp only; omega)⟩,
        steady_v h' p0 p1 (by simp) (by simp) (fun n => sL1_1 rfl (by simp)) (fun n => sL1_0 rfl _) ms0⟩
    · have p1 : (entP N (i * 2 + 1).toNat ⟨[⟨1, cr, 0⟩], ⟨0, 0, 0⟩⟩).Pools[(i * 2 + (0 + 1)).toNat]? = some ⟨[⟨1, cr, 0⟩], ⟨0, 0, 0⟩⟩ := List.getElem?_set_self (by rw [List.length_replicate]; omega)
      have p0 : (entP N (i * 2 + 1).toNat ⟨[⟨1, cr, 0⟩], ⟨0, 0, 0⟩⟩).Pools[(i * 2 + 0).toNat]? = some zs := by
        show (List.set _ _ _)[_]? = _
        rw [List.getElem?_set_ne (by omega)]; exact repI (by omega) (by omega)
      exact ⟨⟨_, worth_v h' p0 p1 (by simp) (by simp) t0 t1 (by dsimp only; omega) (by dsimp only; omega) (by dsimp only; omega)⟩,
        steady_v h' p0 p1 (by simp) (by simp) (fun n => sL1_0 rfl _) (fun n => sL1_1 rfl (by simp)) ms0⟩
  obtain ⟨⟨w, hw⟩, hst⟩ := key
  exact bring_v (n := 870) h hk hp hin (by dsimp only; omega) hw hst
theorem fetchV (h : At (zS m E N) e i (ent0 N) ms cs mt c) (hm : 1 ≤ mt ∧ mt ≤ 4) (hc : 0 ≤ c ∧ c ≤ 39) (hi : i < (N : Int)) (hk : 0 ≤ k ∧ k ≤ 1) :
    d_stock_Fetch 1000 (zS m E N) e i k 3 1 = some (zS m E N, ⟨0, 0, 0⟩, false, 5) := by
  have h0 := h.i0
  have hp : (ent0 N).Pools[(i * 2 + k).toNat]? = some zs := repI (by omega) (by omega)
  unfold d_stock_Fetch
  exact v_bi (place_s h hk) (v_F (by omega) (v_cF (v_ix h.e0 h.hm (v_ix h.i0 h.him (v_ix h.e0 h.hc (v_ix h.i0 h.hic (v_ix h.e0 h.hx (v_ix (by omega) hp (v_bi (poutE (n := 995) hm (by omega)) (v_bnd (v_T (show (5 : Int) ≠ 0 by decide) (v_cT rfl))))))))))))
end
theorem eok0 (N : Nat) (hN : N ≤ 4) : EOk (ent0 N) where
  p := by simp only [ent0, List.length_replicate]; omega
  l := fun q hq => by rw [List.eq_of_mem_replicate hq]; simp
  b := by simp [ent0]
  r := by simp only [ent0, List.length_replicate]; omega
  c := by simp only [ent0, List.length_replicate]; omega
  d := by simp only [ent0, List.length_replicate]; omega
  a := rfl
theorem same0 {m : GMaster} {E N : Nat} (h : MOk m E N) : d_stock_Same 1000 (zS m E N) (zS m E N) = some true :=
  sameT h (by rw [List.length_replicate]; have := h.e2; omega) (fun x hx => by rw [List.eq_of_mem_replicate hx]; exact eok0 N h.n2.2) (by omega)
theorem same1 {m : GMaster} {E N : Nat} (h : MOk m E N) {e : Int} {j : Nat} {p : GPool} (he : 0 ≤ e ∧ e < (E : Int)) (hj : j < N * 2) (hp : p.Layers.length = 1) : d_stock_Same 1000 (stE (zS m E N) e (entP N j p)) (zS m E N) = some false := by
  have h2 := h.e2; have h3 := h.n2
  refine sameF (i := e.toNat) h (X := (List.replicate E (ent0 N)).set e.toNat (entP N j p)) (by simp; omega) (by simp) (by simp; omega) (fun q hq hne => ?_) (fun n hn => ?_) (by omega)
  · rw [List.getElem_set_ne (by omega)]
    simp only [List.getElem_replicate]
    exact ⟨trivial, eok0 N h3.2⟩
  · rw [List.getElem_set_self, List.getElem_replicate]
    have hl : (entP N j p).Pools.length = N * 2 := by show (List.set _ _ _).length = _; rw [List.length_set, List.length_replicate]
    refine seF (i := j) (x := entP N j p) (y := ent0 N) rfl rfl (by rw [hl]; simp [ent0]) (by omega) (by omega) (fun q hq hne => ?_) ?_ hn
    · simp only [List.getElem_set_ne (Ne.symm hne), ent0, List.getElem_replicate]
      simp
    · simp only [List.getElem_set_self, ent0, List.getElem_replicate]
      rw [hp]; simp
section
variable {s : GState} {e i k : Int}
theorem plcN (h : d_stock_is s e i = some false) : d_stock_place s e i k = some (-1) := by
  unfold d_stock_place
  exact v_bi (a := true) (v_bi h (v_nF (v_cT rfl))) rfl
theorem plcK (h : d_stock_is s e i = some true) (hk : ¬ (0 ≤ k ∧ k ≤ 1)) : d_stock_place s e i k = some (-1) := by
  have h1 : d_stock_in k 0 1 = some false := by
    unfold d_stock_in
    by_cases h0 : k ≥ 0
    · exact v_bi (a := false) (v_T h0 (v_cT (v_F (by omega) rfl))) rfl
    · exact v_bi (a := false) (v_F h0 (v_cF rfl)) rfl
  unfold d_stock_place
  exact v_bi (a := true) (v_bi h (v_nT (v_cF (v_bi h1 (v_nF rfl))))) rfl
theorem brN (h : d_stock_place s e i k = some (-1)) {l : GLayer} {n : Nat} : d_stock_Bring n s e i k l = some (s, 0, 0, 4) := by
  unfold d_stock_Bring
  exact v_bi h (v_T (by decide) (v_cT rfl))
theorem ftN (h : d_stock_place s e i k = some (-1)) {n : Nat} : d_stock_Fetch n s e i k 3 1 = some (s, ⟨0, 0, 0⟩, false, 4) := by
  unfold d_stock_Fetch
  exact v_bi h (v_T (by decide) (v_cT rfl))
theorem atN (h : d_stock_place s e i k = some (-1)) : d_stock_At s e i k = some ⟨[], ⟨0, 0, 0⟩⟩ := by
  unfold d_stock_At
  exact v_bi h (v_T (by decide) (v_cT rfl))
theorem rdN (h : d_stock_is s e i = some false) : d_stock_Ready s e i = some 4 := by
  unfold d_stock_Ready
  exact v_bi h (v_nF (v_cT rfl))
theorem isN (h : ¬ ((0 ≤ e ∧ e < (s.Ents.length : Int)) ∧ (0 ≤ i ∧ i < (s.Master.Weights.length : Int)))) : d_stock_is s e i = some false := by
  unfold d_stock_is
  refine v_bi (a := true) ?_ rfl
  by_cases h1 : e < 0
  · exact v_T h1 (v_cT rfl)
  · refine v_F h1 (v_cF ?_)
    by_cases h2 : e ≥ (s.Ents.length : Int)
    · exact v_T h2 (v_cT rfl)
    · refine v_F h2 (v_cF ?_)
      by_cases h3 : i < 0
      · exact v_T h3 (v_cT rfl)
      · exact v_F h3 (v_cF (v_T (by omega) rfl))
end
theorem stockErrors_plain (v e i k : Int) : d_law14_StockErrors 1000 v e i k = some true := by
  obtain ⟨m, hm, E, N, h⟩ := mas v (n := 1000) (by omega)
  have h2 := h.e2; have h3 := h.n2; have hw := h.w.1; have hE := h.e
  unfold d_law14_StockErrors
  refine v_bi hm (v_bi (stV h) ?_)
  by_cases hin : (0 ≤ e ∧ e < (E : Int)) ∧ (0 ≤ i ∧ i < (N : Int))
  · obtain ⟨ms, cs, mt, c, hA, hmt, hc⟩ := atV h hin.1 hin.2
    refine v_bi (a := true) (v_T hin.1.1 (v_cT (v_T (by omega) (v_cT (v_T hin.2.1 (v_cT (v_T (by omega) rfl))))))) ?_
    by_cases hk : 0 ≤ k ∧ k ≤ 1
    · refine v_bi (a := (true, true)) (v_cT (v_T hk.1 (v_cT (v_T (by omega) rfl)))) ?_
      refine v_p2 (v_bi (bringV h3.2 hA hmt hc hin.2.2 hk) (v_bi (fetchV hA hmt hc hin.2.2 hk) (v_bi (ready_v hA rfl) (v_nT (v_cF (v_bi (a := true) ?_ rfl))))))
      exact v_T rfl (v_cT (v_T rfl (v_cT (v_T rfl (v_cT (v_bi (same0 h) (v_cT (v_bi (same1 h hin.1 (by omega) rfl) (v_nF (v_cT (v_bi aw rfl)))))))))))
    · have hp := plcK (k := k) (is_v hA) hk
      refine v_bi (a := (true, false)) ?_ ?_
      · refine v_cT ?_
        by_cases h0 : k ≥ 0
        · exact v_T h0 (v_cT (v_F (by omega) rfl))
        · exact v_F h0 (v_cF rfl)
      · refine v_p2 (v_bi (brN hp) (v_bi (ftN hp) (v_bi (ready_v hA rfl) (v_nF (v_cT (v_bi (a := true) ?_ rfl))))))
        exact v_T rfl (v_cT (v_T rfl (v_cT (v_bi (same0 h) (v_cT (v_bi (same0 h) (v_cT (v_T rfl (v_T rfl (v_cT (v_bi (atN hp) (v_T rfl (v_cT (v_bi aw rfl))))))))))))))
  · have hi := isN (s := zS m E N) (e := e) (i := i) (by rw [List.length_replicate, hw]; exact hin)
    have hp := plcN (k := k) hi
    refine v_bi (a := false) ?_ ?_
    · by_cases h0 : e ≥ 0
      · refine v_T h0 (v_cT ?_)
        by_cases h1 : e < m.Entities
        · refine v_T h1 (v_cT ?_)
          by_cases h4 : i ≥ 0
          · exact v_T h4 (v_cT (v_F (by omega) rfl))
          · exact v_F h4 (v_cF rfl)
        · exact v_F h1 (v_cF rfl)
      · exact v_F h0 (v_cF rfl)
    · refine v_bi (a := (false, false)) (v_cF rfl) ?_
      refine v_p2 (v_bi (brN hp) (v_bi (ftN hp) (v_bi (rdN hi) (v_nF (v_cT (v_bi (a := true) ?_ rfl))))))
      exact v_T rfl (v_cT (v_T rfl (v_cT (v_bi (same0 h) (v_cT (v_bi (same0 h) (v_cT (v_F (by decide) (v_T rfl (v_cT (v_bi (atN hp) (v_T rfl (v_cT (v_bi aw rfl))))))))))))))
#print axioms stockErrors_plain
end Go.Pv
