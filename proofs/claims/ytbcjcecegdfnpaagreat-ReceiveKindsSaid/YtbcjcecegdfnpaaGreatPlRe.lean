/- Plain law: what comes, of each method. -/
import Derived.Test.YtbcjcecegdfnpaaGreatPlRd
set_option linter.unusedSimpArgs false
set_option linter.unusedVariables false
namespace Go.Pv
open Go.Proofs
set_option maxRecDepth 100000
set_option maxHeartbeats 400000
variable {n : Nat}
theorem At.rcp {s : GState} {e i : Int} {x : GEnt} {ms cs : List Int} {m c : Int} (h : At s e i x ms cs m c) (r : List GReceipt) : At ⟨s.Master, s.Ents, r, s.Sales, s.Transits, s.Done⟩ e i x ms cs m c :=
  ⟨h.e0, h.hx, h.el, h.i0, h.i1, h.wl, h.hm, h.hc, h.ml, h.cl, h.him, h.hic, h.pl, h.rl⟩
@[reducible] def Z17 : List Int := [0, 0, 0, 0, 0, 0, 0, 0, 0, 0, 0, 0, 0, 0, 0, 0, 0]
theorem post_any {s : GState} {e : Int} {x : GEnt} {a b c : Int} (e0 : 0 ≤ e) (hx : s.Ents[e.toNat]? = some x) (el : s.Ents.length ≤ 1000) (hb : x.Bal = Z17) (sa : Sm a) (sb : Sm b) (sc : Sm c) (hs : a + b + c = 0) (hz : a = 0 → b = 0) :
    ∃ b', d_stock_Post (n + 14) s e [⟨0, a⟩, ⟨6, b⟩, ⟨1, c⟩] = some (stE s e ⟨x.Now, x.Closed, x.Pools, b', x.Rolls, x.Prices, x.Down, x.Ahead⟩, 0) ∧ b'[(0 : Int).toNat]? = some a ∧ b'[(6 : Int).toNat]? = some b ∧ b'[(1 : Int).toNat]? = some c := by
  have k0 : (0 : Int) + a = a := by omega
  have k6 : (0 : Int) + b = b := by omega
  have k1 : (0 : Int) + c = c := by omega
  have z0 : Sm 0 := by decide
  have q0 : x.Bal.length = 17 := by rw [hb]; rfl
  have g0 : x.Bal[(0 : Int).toNat]? = some 0 := by rw [hb]; rfl
  have g6 : x.Bal[(6 : Int).toNat]? = some 0 := by rw [hb]; rfl
  have g1 : x.Bal[(1 : Int).toNat]? = some 0 := by rw [hb]; rfl
  by_cases ha : a = 0
  · have hb0 : b = 0 := hz ha
    have hc0 : c = 0 := by omega
    refine ⟨x.Bal, post_v e0 hx el (plB sa sb sc ha hb0 hc0) (glB q0), ?_, ?_, ?_⟩
    · rw [g0, ha]
    · rw [g6, hb0]
    · rw [g1, hc0]
  · by_cases hb0 : b = 0
    · have hc0 : c ≠ 0 := by omega
      refine ⟨_, post_v e0 hx el (plA sa sb sc ha hb0 hc0) (glA q0 g0 ⟨z0, sa, by rw [k0]; exact sa⟩ g1 ⟨z0, sc, by rw [k1]; exact sc⟩ ha hc0 (by omega)), ?_, ?_, ?_⟩
      · rw [hb, k0]; rfl
      · rw [hb, hb0]; rfl
      · rw [hb, k1]; rfl
    · by_cases hc0 : c = 0
      · refine ⟨_, post_v e0 hx el (plD sa sb sc ha hb0 hc0) (glD q0 g0 ⟨z0, sa, by rw [k0]; exact sa⟩ g6 ⟨z0, sb, by rw [k6]; exact sb⟩ ha hb0 (by omega)), ?_, ?_, ?_⟩
        · rw [hb, k0]; rfl
        · rw [hb, k6]; rfl
        · rw [hb, hc0]; rfl
      · refine ⟨_, post_v e0 hx el (plC sa sb sc ha hb0 hc0) (glC q0 g0 ⟨z0, sa, by rw [k0]; exact sa⟩ g1 ⟨z0, sc, by rw [k1]; exact sc⟩ g6 ⟨z0, sb, by rw [k6]; exact sb⟩ ha hc0 hb0 (by omega)), ?_, ?_, ?_⟩
        · rw [hb, k0]; rfl
        · rw [hb, k6]; rfl
        · rw [hb, k1]; rfl
@[reducible] def P0 : GPool := ⟨[], ⟨0, 0, 0⟩⟩
@[reducible] def fx (i x cv : Int) (b : List Int) : GEnt := ⟨1, false, E0.Pools.set (i * 2 + 1).toNat ⟨[⟨x, cv, 0⟩], ⟨0, 0, 0⟩⟩, b, E0.Rolls.set i.toNat ⟨0 + 0, 0 + cv, 0 + 0, 0 + 0, 0 + 0, 0 + 0, 0 + 0, 0 + 0, 0 + 0, 0 + 0, 0 + 0⟩, E0.Prices, E0.Down, E0.Ahead⟩
theorem kinds_core {i m x y cv ab : Int} (h : At S15 1 i E0 [1, 2, 3, 4] [10, 10, 10, 10] m 10) (hp0 : E0.Pools[(i * 2 + 0).toNat]? = some P0) (hp1 : E0.Pools[(i * 2 + 1).toNat]? = some P0) (hr : E0.Rolls[i.toNat]? = some ⟨0, 0, 0, 0, 0, 0, 0, 0, 0, 0, 0⟩)
    (hin : d_pool_In 60 m 10 P0 ⟨x, y, 0⟩ = some (⟨[⟨x, cv, 0⟩], ⟨0, 0, 0⟩⟩, ab, 0)) (hx : 1 ≤ x ∧ x ≤ 1000) (hy : 0 ≤ y ∧ y ≤ 100000) (hcv : 0 ≤ cv ∧ cv ≤ 100000) (hab : ab = y - cv) (hz : cv = 0 → ab = 0) :
    ∃ b' s, d_receive_Do 60 S15 ⟨1, 1, i, 1, 0, x, y, 0, []⟩ = some (s, 0) ∧ s.Receipts = [⟨1, i, 1, x, y, x, y, 0⟩] ∧ s.Ents = [E0, fx i x cv b'] ∧ s.Master = S15.Master ∧ b'[(0 : Int).toNat]? = some cv ∧ b'[(6 : Int).toNat]? = some ab ∧ b'[(1 : Int).toNat]? = some (0 - y) ∧
      d_ref14_Worth 60 s 1 i = some ⟨x, cv, 0⟩ := by
  have i0 := h.i0
  have hlt : (i * 2 + 1).toNat < E0.Pools.length := (List.getElem?_eq_some_iff.1 hp1).1
  have a1 : (E0.Pools.set (i * 2 + 1).toNat ⟨[⟨x, cv, 0⟩], ⟨0, 0, 0⟩⟩)[(i * 2 + 0).toNat]? = some P0 := by
    rw [List.getElem?_set_ne (by omega)]; exact hp0
  have a2 : (E0.Pools.set (i * 2 + 1).toNat ⟨[⟨x, cv, 0⟩], ⟨0, 0, 0⟩⟩)[(i * 2 + (0 + 1)).toNat]? = some ⟨[⟨x, cv, 0⟩], ⟨0, 0, 0⟩⟩ := by
    rw [show i * 2 + (0 + 1) = i * 2 + 1 from by omega, List.getElem?_set_self hlt]
  have sx : Sm x := by omega
  have sv : Sm cv := by omega
  have z0 : Sm 0 := by decide
  have k1 := h.set (x' := ⟨E0.Now, E0.Closed, E0.Pools.set (i * 2 + 1).toNat ⟨[⟨x, cv, 0⟩], ⟨0, 0, 0⟩⟩, E0.Bal, E0.Rolls, E0.Prices, E0.Down, E0.Ahead⟩) (by rw [List.length_set]) rfl
  have hw := worth_v (n := 40) k1 (p := P0) (q := ⟨[⟨x, cv, 0⟩], ⟨0, 0, 0⟩⟩) a1 a2 (by decide) (by show 1 ≤ 1000; decide) (fun n => tot0) (fun n => tot1' sx sv z0) ⟨z0, sx, by dsimp only; omega⟩ ⟨z0, sv, by dsimp only; omega⟩ ⟨z0, z0, z0⟩
  have hst := steady_v (n := 40) (t := 0 + 0) (w0 := []) (w1 := [0]) k1 (p := P0) (q := ⟨[⟨x, cv, 0⟩], ⟨0, 0, 0⟩⟩) a1 a2 (by decide) (by show 1 ≤ 1000; decide) (fun n => sL1_0 rfl []) (fun n => sL1_1 rfl (by decide)) (fun n => sum1 z0)
  have hb := bring_v (n := 40) (k := 1) (l := ⟨x, y, 0⟩) h (by decide) hp1 hin (by show _ ∧ _; dsimp only; omega) hw hst
  have e1 : y - ab = cv := by omega
  have hb2 : d_stock_Bring 60 S15 1 i 1 ⟨x, y, 0⟩ = some (stE S15 1 ⟨E0.Now, E0.Closed, E0.Pools.set (i * 2 + 1).toNat ⟨[⟨x, cv, 0⟩], ⟨0, 0, 0⟩⟩, E0.Bal, E0.Rolls, E0.Prices, E0.Down, E0.Ahead⟩, cv, ab, 0) := by
    rw [hb]; show some (_, y - ab, ab, 0) = _; rw [e1]
  obtain ⟨b', hpo, f0, f6, f1⟩ := post_any (n := 46) (a := cv) (b := ab) (c := 0 - y) k1.e0 k1.hx k1.el rfl sv (by omega) (by omega) (by omega) hz
  have k2 := k1.set (x' := ⟨E0.Now, E0.Closed, E0.Pools.set (i * 2 + 1).toNat ⟨[⟨x, cv, 0⟩], ⟨0, 0, 0⟩⟩, b', E0.Rolls, E0.Prices, E0.Down, E0.Ahead⟩) rfl rfl
  have zz : Sm 0 ∧ Sm 0 ∧ Sm (0 + 0) := by decide
  have ht := turn_v k2 hr zz ⟨z0, sv, by omega⟩ zz zz zz zz zz zz zz zz zz
  have hd := receive_v (n := 60) (ready_v h rfl) (by decide) hb2 (by omega) hpo ht (by show 0 ≤ 1000; decide)
  have k3 := (k2.set (x' := ⟨E0.Now, E0.Closed, E0.Pools.set (i * 2 + 1).toNat ⟨[⟨x, cv, 0⟩], ⟨0, 0, 0⟩⟩, b', E0.Rolls.set i.toNat ⟨0 + 0, 0 + cv, 0 + 0, 0 + 0, 0 + 0, 0 + 0, 0 + 0, 0 + 0, 0 + 0, 0 + 0, 0 + 0⟩, E0.Prices, E0.Down, E0.Ahead⟩) rfl (by rw [List.length_set])).rcp [⟨1, i, 1, x, y, x, y, 0⟩]
  have hwo := rworth_v (n := 40) k3 (p := P0) (q := ⟨[⟨x, cv, 0⟩], ⟨0, 0, 0⟩⟩) a1 a2 (fun n => rtot0) (fun n => rtot1 sx sv z0) ⟨z0, by dsimp only; omega, by dsimp only; omega⟩ ⟨z0, by dsimp only; omega, by dsimp only; omega⟩ ⟨z0, z0, z0⟩
  refine ⟨b', _, hd, rfl, rfl, rfl, f0, f6, f1, ?_⟩
  refine hwo.trans ?_
  show some (⟨0 + 0 + (0 + x), 0 + 0 + (0 + cv), 0 + 0 + (0 + 0)⟩ : GLayer) = _
  simp only [Int.zero_add]
theorem kinds_rest {i m x y cv ab : Int} (h : At S15 1 i E0 [1, 2, 3, 4] [10, 10, 10, 10] m 10) (hp0 : E0.Pools[(i * 2 + 0).toNat]? = some P0) (hp1 : E0.Pools[(i * 2 + 1).toNat]? = some P0) (hr : E0.Rolls[i.toNat]? = some ⟨0, 0, 0, 0, 0, 0, 0, 0, 0, 0, 0⟩)
    (hin : d_pool_In 60 m 10 P0 ⟨x, y, 0⟩ = some (⟨[⟨x, cv, 0⟩], ⟨0, 0, 0⟩⟩, ab, 0)) (hx : 1 ≤ x ∧ x ≤ 1000) (hy : 0 ≤ y ∧ y < 100000) (hcv : 0 ≤ cv ∧ cv ≤ 100000) (hab : ab = y - cv) (hz : cv = 0 → ab = 0) (hi : (i = 3 ∧ cv = 10 * x) ∨ (i ≠ 3 ∧ cv = y)) {item q a : Int}
    (h1 : d_law00_Place item 4 = some i) (h2 : d_law00_Place q 1000 = some (x - 1)) (h3 : d_law00_Place a 100000 = some y) : d_law15_ReceiveKinds 60 item q a = some true := by
  obtain ⟨b', s, hd, r1, r2, r3, f0, f6, f1, hwo⟩ := kinds_core h hp0 hp1 hr hin hx (by omega) hcv hab hz
  have i0 := h.i0
  have hlt : i.toNat < E0.Rolls.length := (List.getElem?_eq_some_iff.1 hr).1
  have g1 : s.Ents[(1 : Int).toNat]? = some (fx i x cv b') := by rw [r2]; rfl
  have g2 : s.Receipts[(0 : Int).toNat]? = some ⟨1, i, 1, x, y, x, y, 0⟩ := by rw [r1]; rfl
  have g3 : (fx i x cv b').Rolls[i.toNat]? = some ⟨0 + 0, 0 + cv, 0 + 0, 0 + 0, 0 + 0, 0 + 0, 0 + 0, 0 + 0, 0 + 0, 0 + 0, 0 + 0⟩ := List.getElem?_set_self hlt
  have l1 : s.Ents.length = 2 := by rw [r2]; rfl
  have l2 : s.Receipts.length = 1 := by rw [r1]; rfl
  have hx2 : 1 + (x - 1) = x := by omega
  unfold d_law15_ReceiveKinds
  refine v_bi h1 (v_bi h2 (v_w (by omega) ?_))
  rw [hx2]
  refine v_bi h3 (v_bi start15 (v_bi hd ?_))
  refine v_bi (a := false) ?_ (v_cF ?_)
  · refine v_F (by simp) (v_cF (v_F (by dsimp only; omega) (v_cF (v_F (by dsimp only; omega) rfl))))
  have hc1 : (bnd (decide (i = 3)) fun (x15 : Bool) => (show Option (Int) from cond x15 (bnd (w64 (10 * x)) fun (x17 : Int) => some (x17 : Int)) (some (y : Int))).bind fun z => some z) = some cv := by
    rcases hi with ⟨hi, hc⟩ | ⟨hi, hc⟩
    · exact v_T hi (v_bi (a := 10 * x) (v_cT (v_w (by omega) rfl)) (by rw [hc]))
    · exact v_F hi (v_bi (a := y) (v_cF rfl) (by rw [hc]))
  rcases hi with ⟨hi, hc⟩ | ⟨hi, hc⟩
  · refine v_T hi (v_bi (a := cv) (v_cT (v_w (by omega) (by rw [hc]))) ?_)
    refine v_ix (by decide) g1 (v_ix (by decide) g2 (v_bi hwo (v_bi (a := true) ?_ rfl)))
    refine v_ix (by decide) f0 (v_T rfl (v_cT (v_ix (by decide) f6 (v_w (by omega) (v_T hab (v_cT (v_ix (by decide) f1 (v_w (by omega) (v_T rfl (v_cT (v_T rfl (v_cT (v_T rfl (v_cT (v_T rfl (v_cT (v_ix (by decide) g1 (v_ix i0 g3 (v_T (Int.zero_add _) (v_cT (v_bi awake15 rfl)))))))))))))))))))))
  · refine v_F hi (v_bi (a := cv) (v_cF (by rw [hc])) ?_)
    refine v_ix (by decide) g1 (v_ix (by decide) g2 (v_bi hwo (v_bi (a := true) ?_ rfl)))
    refine v_ix (by decide) f0 (v_T rfl (v_cT (v_ix (by decide) f6 (v_w (by omega) (v_T hab (v_cT (v_ix (by decide) f1 (v_w (by omega) (v_T rfl (v_cT (v_T rfl (v_cT (v_T rfl (v_cT (v_T rfl (v_cT (v_ix (by decide) g1 (v_ix i0 g3 (v_T (Int.zero_add _) (v_cT (v_bi awake15 rfl)))))))))))))))))))))
theorem receiveKinds_plain {item q a : Int} (b1 : -9223372036854775808 ≤ item ∧ item ≤ 9223372036854775807) (b2 : -9223372036854775808 ≤ q ∧ q ≤ 9223372036854775807) (b3 : -9223372036854775808 ≤ a ∧ a ≤ 9223372036854775807) : d_law15_ReceiveKinds 60 item q a = some true := by
  obtain ⟨i, hi, i0, i4⟩ := place_v (n := 4) b1 (by decide)
  obtain ⟨x, hx, x0, x1⟩ := place_v (n := 1000) b2 (by decide)
  obtain ⟨y, hy, y0, y1⟩ := place_v (n := 100000) b3 (by decide)
  have hx' : d_law00_Place q 1000 = some (x + 1 - 1) := by rw [show x + 1 - 1 = x from by omega]; exact hx
  have hi4 : i = 0 ∨ i = 1 ∨ i = 2 ∨ i = 3 := by omega
  have mk : ∀ (j m : Int), 0 ≤ j → j < 4 → [1, 2, 3, 4][j.toNat]? = some m → [10, 10, 10, 10][j.toNat]? = some (10 : Int) → At S15 1 j E0 [1, 2, 3, 4] [10, 10, 10, 10] m 10 := fun j m j0 j4 h1 h2 =>
    ⟨by decide, rfl, by decide, j0, by show j < 4; exact j4, by decide, rfl, rfl, by decide, by decide, h1, h2, by decide, by decide⟩
  rcases hi4 with rfl | rfl | rfl | rfl
  · exact kinds_rest (cv := y) (ab := 0) (mk 0 1 (by decide) (by decide) rfl rfl) rfl rfl rfl (pin1 (n := 48) (by omega) (by omega) (by decide)) (by omega) (by omega) (by omega) (by omega) (by omega) (.inr ⟨by decide, rfl⟩) hi hx' hy
  · exact kinds_rest (cv := y) (ab := 0) (mk 1 2 (by decide) (by decide) rfl rfl) rfl rfl rfl (pin2 (n := 48) (by omega) (by omega) (by decide)) (by omega) (by omega) (by omega) (by omega) (by omega) (.inr ⟨by decide, rfl⟩) hi hx' hy
  · exact kinds_rest (cv := y) (ab := 0) (mk 2 3 (by decide) (by decide) rfl rfl) rfl rfl rfl (pin3 (n := 48) (by omega) (by omega) (by decide)) (by omega) (by omega) (by omega) (by omega) (by omega) (.inr ⟨by decide, rfl⟩) hi hx' hy
  · exact kinds_rest (cv := (x + 1) * 10) (ab := y - (x + 1) * 10) (mk 3 4 (by decide) (by decide) rfl rfl) rfl rfl rfl (pin4 (n := 48) (by omega) (by omega) (by decide) (by decide) (by omega)) (by omega) (by omega) (by omega) (by omega) (by omega) (.inl ⟨rfl, by omega⟩) hi hx' hy
end Go.Pv
