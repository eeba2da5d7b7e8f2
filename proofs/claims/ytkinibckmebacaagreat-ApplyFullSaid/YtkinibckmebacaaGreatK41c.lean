import Derived.Test.YtkinibckmebacaaGreatK41b
set_option linter.unusedVariables false
namespace Go.Pv
open Go.Proofs
set_option maxRecDepth 10000
set_option maxHeartbeats 1000000
def d_fifo_Right_L0 (a1 : List GLayer) : Nat → Int → Option ((Unit) ⊕ ((Int)))
  | 0, _ => none
  | n + 1, y0_1 =>
    bnd (decide (y0_1 < (a1.length : Int))) fun x7 =>
    cond x7 ((ix a1 y0_1).bind fun x8 =>
    (d_fifo_wrong x8).bind fun x9 =>
    cond x9 (esc (some (y0_1 : Int))) (bnd (w64 (y0_1 + 1)) fun x10 =>
    d_fifo_Right_L0 a1 n (x10 : Int))) (brk ())
def d_fifo_Right (n : Nat) (a1 : List GLayer) : Option (Bool) :=
(show Option (Bool) from
bnd (decide ((a1.length : Int) > 30)) fun x3 =>
cond x3 (some (true : Bool)) ((show Option ((Bool)) from
(show Option ((Int)) from
(show Option ((Unit) ⊕ ((Int))) from
d_fifo_Right_L0 a1 n (0 : Int)).bind <| sel <| fun _ =>
some ((-1) : Int)).bind <| fun y2_1 =>
bnd (decide (y2_1 ≥ 0)) fun x12 =>
some (x12 : Bool)).bind <| fun y3_1 =>
some (y3_1 : Bool))).bind <| fun y4_1 =>
asrt (y4_1 = false) <|
(d_fifo_Total n a1).bind fun x13 =>
(show Option (Bool) from
bnd (decide (x13.2 = 0)) fun x16 =>
cond x16 ((d_fifo_steady n a1).bind fun x17 =>
some (x17 : Bool)) (some (false : Bool))).bind <| fun y5_1 =>
some ((y5_1 : Bool))
theorem d_fifo_Right_c {n : Nat} {a1 : List GLayer} {r : Bool} (h0 : d_fifo_Right n a1 = some r) : PP Tryz.prog 256 [lst 3 GLayer.av a1] (fun y => y = boo r) := by
  unfold d_fifo_Right at h0
  refine pp_of_pc (R0 := fun y H => Cv (frzH H) y (boo r)) ?_ (fun y H hc => ⟨_, rfl, pvB r, hc⟩)
  refine pcw (c := _) Tryz.func256 rfl rfl ?_; intro Q hret hnorm
  refine tc tbk 6 (.mk ?_)
  refine jn h0 [0, 2] [] (fun (a : Bool) (k : Unit) => [(11, boo a)]) (fun a k => []) ⟨fun j2 h1 => ?_, ?_⟩
  refine tc tbk 2 (.mk ?_)
  refine sY (yv_len_sl rfl Tryz.underlying95 rfl (lst_len _)) ?_
  refine nb tbk h1 fun x3 h1 => ?_
  refine tr tbk 1 (.mk ?_)
  cases x3
  replace h1 := cf h1
  refine tr tbk 1 (.mk ?_)
  obtain ⟨j4, h2, h1⟩ := bind_e h1
  refine rse (Out := fun y H' => (∃ (a : Bool) (k : Unit), a = j4 ∧ y = boo a ∧ H' = hk [])) rfl rfl rfl (yl_call rfl rfl (.cons rfl (.cons rfl .nil)) cal272 ?_) ?_
  refine pcw (c := _) Tryz.func272 rfl rfl ?_; intro Q hret hnorm
  refine tc tbk 8 (.mk ?_)
  obtain ⟨j5, h3, h2⟩ := bind_e h2
  refine rse (Out := fun y H' => (∃ (a : Int) (k : Unit), a = j5 ∧ y = int a ∧ H' = hk [])) rfl rfl rfl (yl_call rfl rfl (.cons rfl (.cons rfl .nil)) cal282 ?_) ?_
  refine pcw (c := _) Tryz.func282 rfl rfl ?_; intro Q hret hnorm
  refine tc tbk 8 (.mk ?_)
  refine sY (yv_len_sl rfl Tryz.underlying95 rfl (lst_len _)) ?_
  refine tr tbk 2 (.mk ?_)
  refine jnE h3 [4] [] (fun (a : Unit) (k : Unit) => []) (fun a k => []) ⟨fun j6 h4 h3 => ?_, ?_⟩
  refine tc tbk 1 (.mk ?_)
  refine lp (fun n (a : Int) => d_fifo_Right_L0 a1 n a) (0 : Int) () h4 [0, 1, 4, 7] [] (fun (a : Int) (k : Unit) => [(8, int a)]) (fun a k => []) (fun _ => rfl) ⟨leA, ?_⟩
  rintro n y0_1 _ hm h4
  replace h4 : d_fifo_Right_L0 a1 (n + 1) y0_1 = some _ := h4
  rw [d_fifo_Right_L0] at h4
  refine tc tbk 2 (.mk ?_)
  refine nb tbk h4 fun x7 h4 => ?_
  refine tr tbk 2 (.mk ?_)
  cases x7
  replace h4 := cf h4
  refine tc tbk 2 (.mk ?_)
  exact lfE h4 () leA
  replace h4 := ct h4
  refine tc tbk 14 (.mk ?_)
  obtain ⟨x8, e8, h4⟩ := bind_e h4
  refine sY (yv_ixT rfl Tryz.underlying95 sh57 rfl rfl e8) ?_
  refine tr tbk 1 (.mk ?_)
  obtain ⟨x9, e9, h4⟩ := bind_e h4
  refine sC cal273 (d_fifo_wrong_c e9) ?_
  refine tr tbk 1 (.mk ?_)
  cases x9
  replace h4 := cf h4
  refine tc tbk 4 (.mk ?_)
  refine ni tbk h4 fun x10 h4 => ?_
  refine tr tbk 2 (.mk ?_)
  exact bk x10 () h4 leA
  replace h4 := ct h4
  refine tc tbk 6 (.mk ?_)
  obtain ⟨c11, hX, hj⟩ := esc_e h4; subst hj; replace h3 := hX.trans (sel_r h3)
  obtain rfl := nxt_e h3
  refine w_ret (hret _ _ (hk []) (.tmp rfl .nil) (fun _ _ h => nomatch h) ?_)
  exact ⟨y0_1, (), rfl, rfl, rfl⟩
  rintro _ _ h3
  refine tc tbk 4 (.mk ?_)
  obtain rfl := nxt_e h3
  refine w_ret (hret _ _ (hk []) (.tmp rfl .nil) (fun _ _ h => nomatch h) ?_)
  exact ⟨(-1), (), rfl, rfl, rfl⟩
  rintro y _ ⟨y2_1, _, rfl, hc, rfl⟩
  subst hc
  refine nb tbk h2 fun x12 h2 => ?_
  refine tr tbk 2 (.mk ?_)
  obtain rfl := nxt_e h2
  refine w_ret (hret _ _ (hk []) (.tmp rfl .nil) (fun _ _ h => nomatch h) ?_)
  exact ⟨x12, (), rfl, rfl, rfl⟩
  rintro y _ ⟨y3_1, _, rfl, hc, rfl⟩
  subst hc
  refine tr tbk 2 (.mk ?_)
  exact lf h1 () leA
  replace h1 := ct h1
  refine tr tbk 4 (.mk ?_)
  exact lf h1 () leA
  rintro y4_1 _ h0
  replace h0 := asrt_e h0
  obtain ⟨rfl, h0⟩ := h0
  refine tc tbk 5 (.mk ?_)
  obtain ⟨x13, e13, h0⟩ := bind_e h0
  refine sC cal171 (d_fifo_Total_c e13) ?_
  refine tr tbk 3 (.mk ?_)
  refine sA 1 z57 fun v14 => ?_
  refine sS ⟨57, 3, true, true, v14, [[int x13.1.Qty, int x13.1.Value, int x13.1.Profit]]⟩ sh57 ?_
  refine tr tbk 3 (.mk ?_)
  refine jn h0 [] [] (fun (a : Bool) (k : Unit) => [(2, boo a)]) (fun a k => []) ⟨fun j15 h1 => ?_, ?_⟩
  refine tc tbk 2 (.mk ?_)
  refine nb tbk h1 fun x16 h1 => ?_
  refine tr tbk 1 (.mk ?_)
  cases x16
  replace h1 := cf h1
  refine tr tbk 5 (.mk ?_)
  exact lf h1 () leA
  replace h1 := ct h1
  refine tr tbk 1 (.mk ?_)
  obtain ⟨x17, e17, h1⟩ := bind_e h1
  refine sC cal274 (d_fifo_steady_c e17) ?_
  refine tr tbk 3 (.mk ?_)
  exact lf h1 () leA
  rintro y5_1 _ h0
  obtain rfl := nxt_e h0
  refine wR hret (rT .nil) ?_
  exact .refl _
def d_fifo_In (n : Nat) (a1 : List GLayer) (a2 : GLayer) : Option ((List GLayer) × Int) :=
asrt (a1.length ≤ 68719476736) <|
(show Option (Bool) from
bnd (decide (a2.Qty < 1)) fun x7 =>
cond x7 (some (true : Bool)) (bnd (decide (a2.Value < 0)) fun x8 =>
some (x8 : Bool))).bind <| fun y0_1 =>
asrt (y0_1 = false) <|
bnd (decide ((a1.length : Int) ≥ 30)) fun x9 =>
asrt (x9 = false) <|
asrt (a1.length ≤ 68719476736) <|
bnd (a1 ++ ([a2] : List GLayer)) fun x12 =>
asrt (x12.length ≤ 68719476736) <|
(d_fifo_Right n x12).bind fun x15 =>
bnd (!x15) fun x16 =>
asrt (x16 = false) <|
some ((x12 : List GLayer), (0 : Int))
theorem d_fifo_In_c {n : Nat} {a1 : List GLayer} {a2 : GLayer} {r : (List GLayer) × Int} (h0 : d_fifo_In n a1 a2 = some r) : PP Tryz.prog 258 [lst 3 GLayer.av a1, .agg (GLayer.av a2)] (fun y => y = .tup [lst 3 GLayer.av r.1, int r.2]) := by
  unfold d_fifo_In at h0
  refine pp_of_pc (R0 := fun y H => Cv (frzH H) y (.tup [lst 3 GLayer.av r.1, int r.2])) ?_ (fun y H hc => ⟨_, rfl, .tup (pvl2 ((pvLs GLayer.pvc) (r.1)) (pvI (r.2))), hc⟩)
  refine pcw (c := _) Tryz.func258 rfl rfl ?_; intro Q hret hnorm
  refine tc tbk 2 (.mk ?_)
  refine sB 1 fun v3 => ?_
  refine tr tbk 6 (.mk ?_)
  obtain ⟨p4, h0⟩ := asrt_e h0
  refine rse rfl rfl rfl (yl_call rfl rfl (.cons rfl .nil) cal211 (pc_cv (clone211_c (id := 2) (l := a1) rfl p4) (.cons (.refl _) .nil))) ?_; rintro _ _ ⟨v5, rfl, rfl⟩
  refine tr tbk 5 (.mk ?_)
  refine jn h0 [0, 3, 4, 5] [1, 2] (fun (a : Bool) (k : Unit) => [(9, boo a)]) (fun a k => []) ⟨fun j6 h1 => ?_, ?_⟩
  refine tc tbk 3 (.mk ?_)
  refine nb tbk h1 fun x7 h1 => ?_
  refine tr tbk 1 (.mk ?_)
  cases x7
  replace h1 := cf h1
  refine tr tbk 2 (.mk ?_)
  refine nb tbk h1 fun x8 h1 => ?_
  refine tr tbk 3 (.mk ?_)
  exact lf h1 () leA
  replace h1 := ct h1
  refine tr tbk 6 (.mk ?_)
  exact lf h1 () leA
  rintro y0_1 _ h0
  replace h0 := asrt_e h0
  obtain ⟨rfl, h0⟩ := h0
  refine tc tbk 4 (.mk ?_)
  refine sY (yv_len_sl rfl Tryz.underlying95 rfl (.sl rfl rfl)) ?_
  refine nb tbk h0 fun x9 h0 => ?_
  refine tr tbk 2 (.mk ?_)
  replace h0 := asrt_e h0
  obtain ⟨rfl, h0⟩ := h0
  refine tc tbk 4 (.mk ?_)
  refine c_drawE [0, 1, 0, 4, 15, 31] (rl [(2, [1])] []) (rl [(4, [])] [1]) (rl [(1, false), (4, false)] true) [0, 2, 3, 1, 4, 5] mixed (by kernel_rfl) ?_; intro K hK
  refine eM ?_
  refine eL sh57 ?_
  refine eP (fun H hH => yv_to (y := lst 3 GLayer.av ([a2] : List GLayer)) (yv_buildSlice (ps := [(0, _)]) (rows := [[int a2.Qty, int a2.Value, int a2.Profit]]) rfl Tryz.underlying95 bz57 (.cons rfl .nil) (by kernel_rfl) rfl rfl rfl) rfl) ?_
  obtain ⟨p10, h0⟩ := asrt_e h0
  refine de_eff rfl rfl rfl rfl (Yield.frz 2 rfl (yl_call rfl rfl (.cons rfl .nil) cal211 (pc_cv (clone211_c (id := 3) (l := a1) rfl p10) (.cons (cv_lst rfl rfl rfl rfl rfl (Eq.symm rfl)) .nil)))) (by rintro _ _ ⟨v11, rfl, rfl⟩; exact ⟨rfl, trivial⟩) ?_; rintro _ _ ⟨v11, rfl, rfl⟩
  obtain ⟨x12, e12, h0⟩ := bnd_e h0
  obtain ⟨p13, h0⟩ := asrt_e h0
  refine de_eff rfl rfl rfl rfl (yl_appT (g := GLayer.av) (l := a1) (m := ([a2] : List GLayer)) .any rfl Tryz.underlying95 bz57 by57 rfl rfl rfl rfl rfl rfl rfl rfl rfl rfl (Eq.symm rfl) (.refl _) (fun _ => rfl) e12 p13) (by rintro _ _ ⟨v14, -, rfl, rfl⟩; exact trivial) ?_; rintro _ _ ⟨v14, -, rfl, rfl⟩
  refine eA ?_
  refine de_nil (hK _ ?_)
  refine tc tbk 4 (.mk ?_)
  obtain ⟨x15, e15, h0⟩ := bind_e h0
  refine sY (yv_callT (v := boo x15) rfl rfl (.cons rfl .nil) cal256 (.cons (cv_lst rfl rfl rfl rfl rfl (Eq.symm rfl)) .nil) (d_fifo_Right_c e15) rfl) ?_
  refine nb tbk h0 fun x16 h0 => ?_
  refine tr tbk 1 (.mk ?_)
  replace h0 := asrt_e h0
  obtain ⟨rfl, h0⟩ := h0
  refine tc tbk 8 (.mk ?_)
  obtain rfl := nxt_e h0
  refine wR hret (rT (rT .nil)) ?_
  exact CvL.tup (.cons (cv_lst rfl rfl rfl rfl rfl (Eq.symm rfl)) (.cons (.refl _) .nil))
def d_mavg_In (n : Nat) (a1 : List GLayer) (a2 : GLayer) : Option ((List GLayer) × Int) :=
(show Option ((Unit)) from
some ()).bind <| fun _ =>
(d_fifo_In n a1 a2).bind fun x6 =>
bnd (decide (x6.2 ≠ 0)) fun x7 =>
asrt (x7 = false) <|
(show Option ((Unit)) from
some ()).bind <| fun _ =>
(d_fifo_Total n x6.1).bind fun x10 =>
bnd (decide (x10.2 ≠ 0)) fun x12 =>
asrt (x12 = false) <|
some ((([x10.1] : List GLayer) : List GLayer), (0 : Int))
theorem d_mavg_In_c {n : Nat} {a1 : List GLayer} {a2 : GLayer} {r : (List GLayer) × Int} (h0 : d_mavg_In n a1 a2 = some r) : PP Tryz.prog 306 [lst 3 GLayer.av a1, .agg (GLayer.av a2)] (fun y => y = .tup [lst 3 GLayer.av r.1, int r.2]) := by
  unfold d_mavg_In at h0
  refine pp_of_pc (R0 := fun y H => Cv (frzH H) y (.tup [lst 3 GLayer.av r.1, int r.2])) ?_ (fun y H hc => ⟨_, rfl, .tup (pvl2 ((pvLs GLayer.pvc) (r.1)) (pvI (r.2))), hc⟩)
  refine pcw (c := _) Tryz.func306 rfl rfl ?_; intro Q hret hnorm
  refine tc tbk 2 (.mk ?_)
  refine sB 1 fun v3 => ?_
  refine tr tbk 4 (.mk ?_)
  refine c_drawE [0, 1, 0, 0, 15, 31, 63, 63, 127, 511] (rl [(3, [1])] []) (fun i => [1]) (rl [(0, false)] true) [2, 3, 0, 1, 4, 5, 6, 7, 8, 9] mixed (by kernel_rfl) ?_; intro K hK
  refine eM ?_
  refine eL sh57 ?_
  obtain ⟨j4, h1, h0⟩ := bind_e h0
  refine de_eff (Out := fun y H' => (∃ (a : Unit) (k : Unit), a = j4 ∧ y = .agg [.fn (.func 258) [] [], .fn (.func 259) [] [], .fn (.func 171) [] []] ∧ H' = hk [(1, ⟨57, 3, true, true, v3, [[int a2.Qty, int a2.Value, int a2.Profit]]⟩)])) rfl rfl rfl rfl (yl_call rfl rfl .nil cal225 ?_) (by rintro y _ ⟨_, _, rfl, hc, rfl⟩ <;> exact ⟨rfl, trivial⟩) ?_
  refine pcw (c := _) Tryz.func225 rfl rfl ?_; intro Q hret hnorm
  refine tc tbk 2 (.mk ?_)
  refine sA 2 z244 fun v5 => ?_
  refine tr tbk 4 (.mk ?_)
  refine sS ⟨244, 3, true, true, v5, [[.fn (.func 258) [] [], .fn (.func 259) [] [], .fn (.func 171) [] []]]⟩ sh244 ?_
  refine tr tbk 1 (.mk ?_)
  obtain rfl := nxt_e h1
  refine w_ret (hret _ _ (hk [(1, ⟨57, 3, true, true, v3, [[int a2.Qty, int a2.Value, int a2.Profit]]⟩)]) (.cell rfl (.pt rfl rfl rfl) sh244 rfl .nil) (HK.le ⟨rfl, trivial⟩) ?_)
  exact ⟨(), (), rfl, rfl, rfl⟩
  rintro y _ ⟨_, _, rfl, hc, rfl⟩
  subst hc
  refine eP (fun H hH => yv_field rfl fp244_0 sh242 rfl rfl) ?_
  obtain ⟨x6, e6, h0⟩ := bind_e h0
  refine eP (fun H hH => yv_callP rfl rfl (.cons rfl (.cons rfl .nil)) cal258 (CvL.refl _) (d_fifo_In_c e6)) ?_
  refine eM ?_
  iterate 2 refine eX ?_
  iterate 2 refine eA ?_
  refine de_nil (hK _ ?_)
  refine tc tbk 4 (.mk ?_)
  refine nb tbk h0 fun x7 h0 => ?_
  refine tr tbk 1 (.mk ?_)
  replace h0 := asrt_e h0
  obtain ⟨rfl, h0⟩ := h0
  refine tc tbk 4 (.mk ?_)
  obtain ⟨j8, h1, h0⟩ := bind_e h0
  refine rse (Out := fun y H' => (∃ (a : Unit) (k : Unit), a = j8 ∧ y = .agg [.fn (.func 258) [] [], .fn (.func 259) [] [], .fn (.func 171) [] []] ∧ H' = hk [(1, ⟨57, 3, true, true, v3, [[int a2.Qty, int a2.Value, int a2.Profit]]⟩)])) rfl rfl rfl (yl_call rfl rfl .nil cal225 ?_) ?_
  refine pcw (c := _) Tryz.func225 rfl rfl ?_; intro Q hret hnorm
  refine tc tbk 2 (.mk ?_)
  refine sA 3 z244 fun v9 => ?_
  refine tr tbk 4 (.mk ?_)
  refine sS ⟨244, 3, true, true, v9, [[.fn (.func 258) [] [], .fn (.func 259) [] [], .fn (.func 171) [] []]]⟩ sh244 ?_
  refine tr tbk 1 (.mk ?_)
  obtain rfl := nxt_e h1
  refine w_ret (hret _ _ (hk [(1, ⟨57, 3, true, true, v3, [[int a2.Qty, int a2.Value, int a2.Profit]]⟩)]) (.cell rfl (.pt rfl rfl rfl) sh244 rfl .nil) (HK.le ⟨rfl, trivial⟩) ?_)
  exact ⟨(), (), rfl, rfl, rfl⟩
  rintro y _ ⟨_, _, rfl, hc, rfl⟩
  subst hc
  refine tr tbk 2 (.mk ?_)
  obtain ⟨x10, e10, h0⟩ := bind_e h0
  refine sC cal171 (d_fifo_Total_c e10) ?_
  refine tr tbk 3 (.mk ?_)
  refine sA 4 z57 fun v11 => ?_
  refine sS ⟨57, 3, true, true, v11, [[int x10.1.Qty, int x10.1.Value, int x10.1.Profit]]⟩ sh57 ?_
  refine tr tbk 6 (.mk ?_)
  refine nb tbk h0 fun x12 h0 => ?_
  refine tr tbk 1 (.mk ?_)
  replace h0 := asrt_e h0
  obtain ⟨rfl, h0⟩ := h0
  refine tc tbk 5 (.mk ?_)
  refine sY (yv_to (y := lst 3 GLayer.av ([x10.1] : List GLayer)) (yv_buildSlice (ps := [(0, _)]) (rows := [[int x10.1.Qty, int x10.1.Value, int x10.1.Profit]]) rfl Tryz.underlying95 bz57 (.cons rfl .nil) (by kernel_rfl) rfl rfl rfl) rfl) ?_
  refine tr tbk 3 (.mk ?_)
  obtain rfl := nxt_e h0
  refine wR hret (rT (rT .nil)) ?_
  exact .refl _
def d_pool_In (n : Nat) (a1 : Int) (a2 : Int) (a3 : GPool) (a4 : GLayer) : Option (GPool × Int × Int) :=
(show Option ((Unit) ⊕ (Unit) ⊕ (Unit)) from
bnd (decide (a1 = 1)) fun x9 =>
cond x9 (some (.inr (.inr ()))) (bnd (decide (a1 = 2)) fun x10 =>
cond x10 (some (.inr (.inl ()))) (bnd (decide (a1 = 3)) fun x11 =>
asrt (x11 = false) <|
bnd (decide (a1 = 4)) fun x12 =>
asrt (x12 = false) <|
some (.inl ())))).bind <| selr (fun _ =>
(d_pool_own a3).bind fun x13 =>
some ((x13 : GPool), (0 : Int), (12 : Int))) <| selr (fun _ =>
(show Option ((GPool × Int)) from
(d_mavg_In n a3.Layers a4).bind fun x19 =>
(d_pool_with a3 x19.1).bind fun x20 =>
some ((x20 : GPool), (x19.2 : Int))).bind <| p2 fun (y3_1 : GPool) (y3_2 : Int) =>
bnd (decide (y3_2 ≠ 0)) fun x22 =>
asrt (x22 = false) <|
some ((y3_1 : GPool), (0 : Int), (0 : Int))) <| fun _ =>
(show Option ((GPool × Int)) from
(d_fifo_In n a3.Layers a4).bind fun x28 =>
(d_pool_with a3 x28.1).bind fun x29 =>
some ((x29 : GPool), (x28.2 : Int))).bind <| p2 fun (y4_1 : GPool) (y4_2 : Int) =>
bnd (decide (y4_2 ≠ 0)) fun x31 =>
asrt (x31 = false) <|
some ((y4_1 : GPool), (0 : Int), (0 : Int))
theorem d_pool_In_c {n : Nat} {a1 : Int} {a2 : Int} {a3 : GPool} {a4 : GLayer} {r : GPool × Int × Int} (h0 : d_pool_In n a1 a2 a3 a4 = some r) : PP Tryz.prog 126 [int a1, int a2, .agg (GPool.av a3), .agg (GLayer.av a4)] (fun y => y = .tup [.agg (GPool.av r.1), int r.2.1, int r.2.2]) := by
  unfold d_pool_In at h0
  refine pp_of_pc (R0 := fun y H => Cv (frzH H) y (.tup [.agg (GPool.av r.1), int r.2.1, int r.2.2])) ?_ (fun y H hc => ⟨_, rfl, .tup (pvl3 ((fun (a : GPool) => PV.agg (GPool.pvc a)) (r.1)) (pvI (r.2.1)) (pvI (r.2.2))), hc⟩)
  refine pcw (c := _) Tryz.func126 rfl rfl ?_; intro Q hret hnorm
  refine tc tbk 2 (.mk ?_)
  refine sB 1 fun v5 => ?_
  refine sB 2 fun v6 => ?_
  refine sA 3 z98 fun v7 => ?_
  refine tr tbk 7 (.mk ?_)
  obtain ⟨j8, h1, h0⟩ := bind_e h0
  refine rse (Out := fun y H' => (∃ (a : Unit) (k : Unit), (.inl a) = j8 ∧ y = .sc .nilIface ∧ H' = hk [(1, ⟨98, 4, true, true, v5, [[lst 3 GLayer.av a3.Layers, int a3.Pend.a0, int a3.Pend.a1, int a3.Pend.a2]]⟩), (2, ⟨57, 3, true, true, v6, [[int a4.Qty, int a4.Value, int a4.Profit]]⟩), (3, ⟨98, 4, true, true, v7, [[.sc (.slice none 0 0), int 0, int 0, int 0]]⟩)]) ∨ (∃ (a : Unit) (k : Unit), (.inr (.inl a)) = j8 ∧ y = .ifc 257 (.agg []) ∧ H' = hk [(1, ⟨98, 4, true, true, v5, [[lst 3 GLayer.av a3.Layers, int a3.Pend.a0, int a3.Pend.a1, int a3.Pend.a2]]⟩), (2, ⟨57, 3, true, true, v6, [[int a4.Qty, int a4.Value, int a4.Profit]]⟩), (3, ⟨98, 4, true, true, v7, [[.sc (.slice none 0 0), int 0, int 0, int 0]]⟩)]) ∨ (∃ (a : Unit) (k : Unit), (.inr (.inr a)) = j8 ∧ y = .ifc 256 (.agg []) ∧ H' = hk [(1, ⟨98, 4, true, true, v5, [[lst 3 GLayer.av a3.Layers, int a3.Pend.a0, int a3.Pend.a1, int a3.Pend.a2]]⟩), (2, ⟨57, 3, true, true, v6, [[int a4.Qty, int a4.Value, int a4.Profit]]⟩), (3, ⟨98, 4, true, true, v7, [[.sc (.slice none 0 0), int 0, int 0, int 0]]⟩)])) rfl rfl rfl (yl_call rfl rfl (.cons rfl (.cons rfl .nil)) cal194 ?_) ?_
  refine pcw (c := _) Tryz.func194 rfl rfl ?_; intro Q hret hnorm
  refine tc tbk 12 (.mk ?_)
  refine nb tbk h1 fun x9 h1 => ?_
  refine tr tbk 2 (.mk ?_)
  cases x9
  replace h1 := cf h1
  refine tc tbk 3 (.mk ?_)
  refine nb tbk h1 fun x10 h1 => ?_
  refine tr tbk 2 (.mk ?_)
  cases x10
  replace h1 := cf h1
  refine tc tbk 3 (.mk ?_)
  refine nb tbk h1 fun x11 h1 => ?_
  refine tr tbk 2 (.mk ?_)
  replace h1 := asrt_e h1
  obtain ⟨rfl, h1⟩ := h1
  refine tc tbk 3 (.mk ?_)
  refine nb tbk h1 fun x12 h1 => ?_
  refine tr tbk 2 (.mk ?_)
  replace h1 := asrt_e h1
  obtain ⟨rfl, h1⟩ := h1
  refine tc tbk 7 (.mk ?_)
  obtain rfl := nxt_e h1
  refine w_ret (hret _ _ (hk [(1, ⟨98, 4, true, true, v5, [[lst 3 GLayer.av a3.Layers, int a3.Pend.a0, int a3.Pend.a1, int a3.Pend.a2]]⟩), (2, ⟨57, 3, true, true, v6, [[int a4.Qty, int a4.Value, int a4.Profit]]⟩), (3, ⟨98, 4, true, true, v7, [[.sc (.slice none 0 0), int 0, int 0, int 0]]⟩)]) (.tmp rfl .nil) (HK.le ⟨rfl, rfl, rfl, trivial⟩) ?_)
  exact (.inl ⟨(), (), rfl, rfl, rfl⟩)
  replace h1 := ct h1
  refine tc tbk 4 (.mk ?_)
  refine sY (yv_makeIface rfl Tryz.underlying257 (by intro _ h; cases h) rfl) ?_
  refine tr tbk 2 (.mk ?_)
  obtain rfl := nxt_e h1
  refine w_ret (hret _ _ (hk [(1, ⟨98, 4, true, true, v5, [[lst 3 GLayer.av a3.Layers, int a3.Pend.a0, int a3.Pend.a1, int a3.Pend.a2]]⟩), (2, ⟨57, 3, true, true, v6, [[int a4.Qty, int a4.Value, int a4.Profit]]⟩), (3, ⟨98, 4, true, true, v7, [[.sc (.slice none 0 0), int 0, int 0, int 0]]⟩)]) (.tmp rfl .nil) (HK.le ⟨rfl, rfl, rfl, trivial⟩) ?_)
  exact (.inr (.inl ⟨(), (), rfl, rfl, rfl⟩))
  replace h1 := ct h1
  refine tc tbk 4 (.mk ?_)
  refine sY (yv_makeIface rfl Tryz.underlying256 (by intro _ h; cases h) rfl) ?_
  refine tr tbk 2 (.mk ?_)
  obtain rfl := nxt_e h1
  refine w_ret (hret _ _ (hk [(1, ⟨98, 4, true, true, v5, [[lst 3 GLayer.av a3.Layers, int a3.Pend.a0, int a3.Pend.a1, int a3.Pend.a2]]⟩), (2, ⟨57, 3, true, true, v6, [[int a4.Qty, int a4.Value, int a4.Profit]]⟩), (3, ⟨98, 4, true, true, v7, [[.sc (.slice none 0 0), int 0, int 0, int 0]]⟩)]) (.tmp rfl .nil) (HK.le ⟨rfl, rfl, rfl, trivial⟩) ?_)
  exact (.inr (.inr ⟨(), (), rfl, rfl, rfl⟩))
  rintro y _ (⟨_, _, rfl, hc, rfl⟩ | ⟨_, _, rfl, hc, rfl⟩ | ⟨_, _, rfl, hc, rfl⟩)
  replace h0 := selr_l h0
  subst hc
  refine tr tbk 6 (.mk ?_)
  refine sY (yv_ifeqN rfl Tryz.underlying215 rfl rfl) ?_
  refine tr tbk 5 (.mk ?_)
  obtain ⟨x13, e13, h0⟩ := bind_e h0
  refine sC cal195 (d_pool_own_c e13) ?_
  refine sS ⟨98, 4, true, true, v7, [[lst 3 GLayer.av x13.Layers, int x13.Pend.a0, int x13.Pend.a1, int x13.Pend.a2]]⟩ sh98 ?_
  refine tr tbk 3 (.mk ?_)
  obtain rfl := nxt_e h0
  refine wR hret (rC sh98 (rT (rT .nil))) ?_
  exact .refl _
  replace h0 := selr_r h0
  replace h0 := selr_l h0
  subst hc
  refine tr tbk 6 (.mk ?_)
  refine sY (yv_ifeq rfl Tryz.underlying215 rfl rfl) ?_
  refine tr tbk 8 (.mk ?_)
  obtain ⟨j14, h1, h0⟩ := bind_e h0
  refine rse (Out := fun y H' => (∃ (a : GPool × Int) (k : Unit), a = j14 ∧ y = .tup [.agg [lst 3 GLayer.av a.1.Layers, int a.1.Pend.a0, int a.1.Pend.a1, int a.1.Pend.a2], int 0, int a.2] ∧ H' = hk [(1, ⟨98, 4, true, true, v5, [[lst 3 GLayer.av a3.Layers, int a3.Pend.a0, int a3.Pend.a1, int a3.Pend.a2]]⟩), (2, ⟨57, 3, true, true, v6, [[int a4.Qty, int a4.Value, int a4.Profit]]⟩), (3, ⟨98, 4, true, true, v7, [[.sc (.slice none 0 0), int 0, int 0, int 0]]⟩)])) rfl rfl rfl (yl_callI rfl rfl mth257_304 (.cons rfl (.cons rfl .nil)) cal304 ?_) ?_
  refine pcw (c := _) Tryz.func304 rfl rfl ?_; intro Q hret hnorm
  refine tc tbk 2 (.mk ?_)
  refine sB 4 fun v15 => ?_
  refine sB 5 fun v16 => ?_
  refine sB 6 fun v17 => ?_
  refine sA 7 z98 fun v18 => ?_
  refine tr tbk 8 (.mk ?_)
  obtain ⟨x19, e19, h1⟩ := bind_e h1
  refine sC cal306 (d_mavg_In_c e19) ?_
  refine tr tbk 10 (.mk ?_)
  obtain ⟨x20, e20, h1⟩ := bind_e h1
  refine sC cal242 (d_pool_with_c e20) ?_
  refine tr tbk 1 (.mk ?_)
  refine sS ⟨98, 4, true, true, v18, [[lst 3 GLayer.av x20.Layers, int x20.Pend.a0, int x20.Pend.a1, int x20.Pend.a2]]⟩ sh98 ?_
  refine tr tbk 3 (.mk ?_)
  obtain rfl := nxt_e h1
  refine w_ret (hret _ _ (hk [(1, ⟨98, 4, true, true, v5, [[lst 3 GLayer.av a3.Layers, int a3.Pend.a0, int a3.Pend.a1, int a3.Pend.a2]]⟩), (2, ⟨57, 3, true, true, v6, [[int a4.Qty, int a4.Value, int a4.Profit]]⟩), (3, ⟨98, 4, true, true, v7, [[.sc (.slice none 0 0), int 0, int 0, int 0]]⟩)]) (.cell rfl (.pt rfl rfl rfl) sh98 rfl (.tmp rfl (.tmp rfl .nil))) (HK.le ⟨rfl, rfl, rfl, trivial⟩) ?_)
  exact ⟨(x20, x19.2), (), rfl, rfl, rfl⟩
  rintro y _ ⟨⟨y3_1, y3_2⟩, _, rfl, hc, rfl⟩
  replace h0 := p2_e h0
  subst hc
  refine tr tbk 4 (.mk ?_)
  refine sA 8 z98 fun v21 => ?_
  refine sS ⟨98, 4, true, true, v21, [[lst 3 GLayer.av y3_1.Layers, int y3_1.Pend.a0, int y3_1.Pend.a1, int y3_1.Pend.a2]]⟩ sh98 ?_
  refine tr tbk 7 (.mk ?_)
  refine nb tbk h0 fun x22 h0 => ?_
  refine tr tbk 1 (.mk ?_)
  replace h0 := asrt_e h0
  obtain ⟨rfl, h0⟩ := h0
  refine tc tbk 6 (.mk ?_)
  refine sS ⟨98, 4, true, true, v7, [[lst 3 GLayer.av y3_1.Layers, int y3_1.Pend.a0, int y3_1.Pend.a1, int y3_1.Pend.a2]]⟩ sh98 ?_
  refine tr tbk 3 (.mk ?_)
  obtain rfl := nxt_e h0
  refine wR hret (rC sh98 (rT (rT .nil))) ?_
  exact .refl _
  replace h0 := selr_r h0
  replace h0 := selr_r h0
  subst hc
  refine tr tbk 6 (.mk ?_)
  refine sY (yv_ifeq rfl Tryz.underlying215 rfl rfl) ?_
  refine tr tbk 8 (.mk ?_)
  obtain ⟨j23, h1, h0⟩ := bind_e h0
  refine rse (Out := fun y H' => (∃ (a : GPool × Int) (k : Unit), a = j23 ∧ y = .tup [.agg [lst 3 GLayer.av a.1.Layers, int a.1.Pend.a0, int a.1.Pend.a1, int a.1.Pend.a2], int 0, int a.2] ∧ H' = hk [(1, ⟨98, 4, true, true, v5, [[lst 3 GLayer.av a3.Layers, int a3.Pend.a0, int a3.Pend.a1, int a3.Pend.a2]]⟩), (2, ⟨57, 3, true, true, v6, [[int a4.Qty, int a4.Value, int a4.Profit]]⟩), (3, ⟨98, 4, true, true, v7, [[.sc (.slice none 0 0), int 0, int 0, int 0]]⟩)])) rfl rfl rfl (yl_callI rfl rfl mth256_302 (.cons rfl (.cons rfl .nil)) cal302 ?_) ?_
  refine pcw (c := _) Tryz.func302 rfl rfl ?_; intro Q hret hnorm
  refine tc tbk 2 (.mk ?_)
  refine sB 9 fun v24 => ?_
  refine sB 10 fun v25 => ?_
  refine sB 11 fun v26 => ?_
  refine sA 12 z98 fun v27 => ?_
  refine tr tbk 8 (.mk ?_)
  obtain ⟨x28, e28, h1⟩ := bind_e h1
  refine sC cal258 (d_fifo_In_c e28) ?_
  refine tr tbk 10 (.mk ?_)
  obtain ⟨x29, e29, h1⟩ := bind_e h1
  refine sC cal242 (d_pool_with_c e29) ?_
  refine tr tbk 1 (.mk ?_)
  refine sS ⟨98, 4, true, true, v27, [[lst 3 GLayer.av x29.Layers, int x29.Pend.a0, int x29.Pend.a1, int x29.Pend.a2]]⟩ sh98 ?_
  refine tr tbk 3 (.mk ?_)
  obtain rfl := nxt_e h1
  refine w_ret (hret _ _ (hk [(1, ⟨98, 4, true, true, v5, [[lst 3 GLayer.av a3.Layers, int a3.Pend.a0, int a3.Pend.a1, int a3.Pend.a2]]⟩), (2, ⟨57, 3, true, true, v6, [[int a4.Qty, int a4.Value, int a4.Profit]]⟩), (3, ⟨98, 4, true, true, v7, [[.sc (.slice none 0 0), int 0, int 0, int 0]]⟩)]) (.cell rfl (.pt rfl rfl rfl) sh98 rfl (.tmp rfl (.tmp rfl .nil))) (HK.le ⟨rfl, rfl, rfl, trivial⟩) ?_)
  exact ⟨(x29, x28.2), (), rfl, rfl, rfl⟩
  rintro y _ ⟨⟨y4_1, y4_2⟩, _, rfl, hc, rfl⟩
  replace h0 := p2_e h0
  subst hc
  refine tr tbk 4 (.mk ?_)
  refine sA 8 z98 fun v30 => ?_
  refine sS ⟨98, 4, true, true, v30, [[lst 3 GLayer.av y4_1.Layers, int y4_1.Pend.a0, int y4_1.Pend.a1, int y4_1.Pend.a2]]⟩ sh98 ?_
  refine tr tbk 7 (.mk ?_)
  refine nb tbk h0 fun x31 h0 => ?_
  refine tr tbk 1 (.mk ?_)
  replace h0 := asrt_e h0
  obtain ⟨rfl, h0⟩ := h0
  refine tc tbk 6 (.mk ?_)
  refine sS ⟨98, 4, true, true, v7, [[lst 3 GLayer.av y4_1.Layers, int y4_1.Pend.a0, int y4_1.Pend.a1, int y4_1.Pend.a2]]⟩ sh98 ?_
  refine tr tbk 3 (.mk ?_)
  obtain rfl := nxt_e h0
  refine wR hret (rC sh98 (rT (rT .nil))) ?_
  exact .refl _
def d_stock_At (a1 : GState) (a2 : Int) (a3 : Int) (a4 : Int) : Option (GPool) :=
(d_stock_place a1 a2 a3 a4).bind fun x7 =>
bnd (decide (x7 < 0)) fun x8 =>
asrt (x8 = false) <|
(ix a1.Ents a2).bind fun x9 =>
(ix x9.Pools x7).bind fun x10 =>
asrt (x10.Layers.length ≤ 68719476736) <|
some ((x10 : GPool))
theorem d_stock_At_c {a1 : GState} {a2 : Int} {a3 : Int} {a4 : Int} {r : GPool} (h0 : d_stock_At a1 a2 a3 a4 = some r) : PP Tryz.prog 139 [.agg (GState.av a1), int a2, int a3, int a4] (fun y => y = .agg (GPool.av r)) := by
  unfold d_stock_At at h0
  refine pp_of_pc (R0 := fun y H => Cv (frzH H) y (.agg (GPool.av r))) ?_ (fun y H hc => ⟨_, rfl, (fun (a : GPool) => PV.agg (GPool.pvc a)) r, hc⟩)
  refine pcw (c := _) Tryz.func139 rfl rfl ?_; intro Q hret hnorm
  refine tc tbk 2 (.mk ?_)
  refine sB 1 fun v5 => ?_
  refine sA 2 z98 fun v6 => ?_
  refine tr tbk 7 (.mk ?_)
  obtain ⟨x7, e7, h0⟩ := bind_e h0
  refine sC cal125 (d_stock_place_c e7) ?_
  refine tr tbk 6 (.mk ?_)
  refine nb tbk h0 fun x8 h0 => ?_
  refine tr tbk 1 (.mk ?_)
  replace h0 := asrt_e h0
  obtain ⟨rfl, h0⟩ := h0
  refine tc tbk 7 (.mk ?_)
  obtain ⟨x9, e9, h0⟩ := bind_e h0
  refine sY (yv_to (y := .pp [int x9.Now, boo x9.Closed, lst 4 GPool.av x9.Pools, lst 1 fI x9.Bal, lst 11 GRoll.av x9.Rolls, lst 1 fI x9.Prices, lst 1 fI x9.Down, lst 8 GEnt.av x9.Ahead]) (yv_ixT rfl Tryz.underlying26 sh46 rfl rfl e9) (congrArg AV.pp (GEnt.av_eq x9))) ?_
  refine tr tbk 3 (.mk ?_)
  obtain ⟨x10, e10, h0⟩ := bind_e h0
  refine sY (yv_ixT rfl Tryz.underlying43 sh98 rfl rfl e10) ?_
  refine tr tbk 1 (.mk ?_)
  refine sA 3 z98 fun v11 => ?_
  refine sS ⟨98, 4, true, true, v11, [[lst 3 GLayer.av x10.Layers, int x10.Pend.a0, int x10.Pend.a1, int x10.Pend.a2]]⟩ sh98 ?_
  refine tr tbk 5 (.mk ?_)
  obtain ⟨p12, h0⟩ := asrt_e h0
  refine rse rfl rfl rfl (yl_call rfl rfl (.cons rfl .nil) cal211 (pc_cv (clone211_c (id := 4) (l := x10.Layers) rfl p12) (.cons (.refl _) .nil))) ?_; rintro _ _ ⟨v13, rfl, rfl⟩
  refine tr tbk 1 (.mk ?_)
  refine sS ⟨98, 4, true, true, v11, [[.sl 4 v13 0 x10.Layers.length, int x10.Pend.a0, int x10.Pend.a1, int x10.Pend.a2]]⟩ sh95 ?_
  refine tr tbk 4 (.mk ?_)
  refine sS ⟨98, 4, true, true, v6, [[.sl 4 v13 0 x10.Layers.length, int x10.Pend.a0, int x10.Pend.a1, int x10.Pend.a2]]⟩ sh98 ?_
  refine tr tbk 1 (.mk ?_)
  obtain rfl := nxt_e h0
  refine wR hret (rC sh98 .nil) ?_
  exact (CvL.agg (.cons (cv_lst rfl rfl rfl rfl rfl (Eq.symm rfl)) (.cons (.refl _) (.cons (.refl _) (.cons (.refl _) .nil)))))
def d_stock_worth_L0 (a1 : GState) (a2 : Int) (a3 : Int) : Nat → Int → (List Int) → (List Int) → (List Int) → Option ((List Int) × (List Int) × (List Int))
  | 0, _, _, _, _ => none
  | n + 1, y0_4, y0_5, y0_6, y0_7 =>
    bnd (decide (y0_4 < 2)) fun x10 =>
    cond x10 ((d_stock_At a1 a2 a3 y0_4).bind fun x11 =>
    (d_fifo_Total n x11.Layers).bind fun x12 =>
    bnd (y0_5 ++ ([x12.1.Qty] : List Int)) fun x14 =>
    asrt (x14.length ≤ 68719476736) <|
    bnd (y0_6 ++ ([x12.1.Value] : List Int)) fun x17 =>
    asrt (x17.length ≤ 68719476736) <|
    bnd (y0_7 ++ ([x12.1.Profit] : List Int)) fun x20 =>
    asrt (x20.length ≤ 68719476736) <|
    bnd (w64 (y0_4 + 1)) fun x23 =>
    d_stock_worth_L0 a1 a2 a3 n (x23 : Int) (x14 : List Int) (x17 : List Int) (x20 : List Int)) (some ((y0_5 : List Int), (y0_6 : List Int), (y0_7 : List Int)))
def d_stock_worth (n : Nat) (a1 : GState) (a2 : Int) (a3 : Int) : Option (GLayer × Bool) :=
(show Option ((List Int) × (List Int) × (List Int)) from
d_stock_worth_L0 a1 a2 a3 n (0 : Int) (([] : List Int) : List Int) (([] : List Int) : List Int) (([] : List Int) : List Int)).bind <| p2 fun (y1_4 : List Int) (q0 : (List Int) × (List Int)) => (p2 fun (y1_5 : List Int) (y1_6 : List Int) =>
(d_money_Sum n y1_4).bind fun x24 =>
(d_money_Sum n y1_5).bind fun x25 =>
(d_money_Sum n y1_6).bind fun x26 =>
bnd (if x26.2 > (if x25.2 > x24.2 then x25.2 else x24.2) then x26.2 else (if x25.2 > x24.2 then x25.2 else x24.2)) fun x27 =>
bnd (decide (x27 = 0)) fun x28 =>
some (((⟨x24.1, x25.1, x26.1⟩ : GLayer) : GLayer), (x28 : Bool))) q0
theorem d_stock_worth_c {n : Nat} {a1 : GState} {a2 : Int} {a3 : Int} {r : GLayer × Bool} (h0 : d_stock_worth n a1 a2 a3 = some r) : PP Tryz.prog 100 [.agg (GState.av a1), int a2, int a3] (fun y => y = .tup [.agg (GLayer.av r.1), boo r.2]) := by
  unfold d_stock_worth at h0
  refine pp_of_pc (R0 := fun y H => Cv (frzH H) y (.tup [.agg (GLayer.av r.1), boo r.2])) ?_ (fun y H hc => ⟨_, rfl, .tup (pvl2 ((fun (a : GLayer) => PV.agg (GLayer.pvc a)) (r.1)) (pvB (r.2))), hc⟩)
  refine pcw (c := _) Tryz.func100 rfl rfl ?_; intro Q hret hnorm
  refine tc tbk 2 (.mk ?_)
  refine sB 1 fun v4 => ?_
  refine sA 2 z57 fun v5 => ?_
  refine tr tbk 13 (.mk ?_)
  refine jn h0 [6, 7] [2] (fun (a : (List Int) × (List Int) × (List Int)) (k : Nat × Nat × Nat) => [(8, .sl 7 k.1 0 a.1.length), (9, .sl 8 k.2.1 0 a.2.1.length), (10, .sl 9 k.2.2 0 a.2.2.length)]) (fun a k => [(7, ⟨3, 1, true, true, k.1, a.1.map fI⟩), (8, ⟨3, 1, true, true, k.2.1, a.2.1.map fI⟩), (9, ⟨3, 1, true, true, k.2.2, a.2.2.map fI⟩)]) ⟨fun j6 h1 => ?_, ?_⟩
  refine tc tbk 1 (.mk ?_)
  refine c_nilobj 8 7 3 1 rfl rfl ?_; intro v7
  refine c_nilobj 9 8 3 1 rfl rfl ?_; intro v8
  refine c_nilobj 10 9 3 1 rfl rfl ?_; intro v9
  refine lp (fun n (a : Int × (List Int) × (List Int) × (List Int)) => d_stock_worth_L0 a1 a2 a3 n a.1 a.2.1 a.2.2.1 a.2.2.2) ((0 : Int), (([] : List Int) : List Int), (([] : List Int) : List Int), (([] : List Int) : List Int)) (v7, v8, v9) h1 [1, 2, 3, 6, 7] [1, 2] (fun (a : Int × (List Int) × (List Int) × (List Int)) (k : Nat × Nat × Nat) => [(8, .sl 7 k.1 0 a.2.1.length), (9, .sl 8 k.2.1 0 a.2.2.1.length), (10, .sl 9 k.2.2 0 a.2.2.2.length), (20, int a.1)]) (fun a k => [(7, ⟨3, 1, true, true, k.1, a.2.1.map fI⟩), (8, ⟨3, 1, true, true, k.2.1, a.2.2.1.map fI⟩), (9, ⟨3, 1, true, true, k.2.2, a.2.2.2.map fI⟩)]) (fun _ => rfl) ⟨leA, ?_⟩
  rintro n ⟨y0_4, y0_5, y0_6, y0_7⟩ ⟨w0_1, w0_2, w0_3⟩ hm h1
  replace h1 : d_stock_worth_L0 a1 a2 a3 (n + 1) y0_4 y0_5 y0_6 y0_7 = some _ := h1
  rw [d_stock_worth_L0] at h1
  refine tc tbk 2 (.mk ?_)
  refine nb tbk h1 fun x10 h1 => ?_
  refine tr tbk 2 (.mk ?_)
  cases x10
  replace h1 := cf h1
  refine tc tbk 2 (.mk ?_)
  exact lf h1 (w0_1, w0_2, w0_3) leA
  replace h1 := ct h1
  refine tc tbk 15 (.mk ?_)
  obtain ⟨x11, e11, h1⟩ := bind_e h1
  refine sC cal139 (d_stock_At_c e11) ?_
  refine tr tbk 1 (.mk ?_)
  obtain ⟨x12, e12, h1⟩ := bind_e h1
  refine sC cal171 (d_fifo_Total_c e12) ?_
  refine tr tbk 3 (.mk ?_)
  refine sA 3 z57 fun v13 => ?_
  refine sS ⟨57, 3, true, true, v13, [[int x12.1.Qty, int x12.1.Value, int x12.1.Profit]]⟩ sh57 ?_
  refine tr tbk 2 (.mk ?_)
  refine c_drawE [0, 0, 2, 6, 15, 0, 0, 64, 192, 511, 0, 0, 2048, 6144, 16383, 32767, 65535, 131071] (rl [(1, [3]), (2, [3]), (6, [3]), (7, [3]), (11, [3]), (12, [3])] []) (rl [(14, [])] [3]) (rl [(4, false), (9, false), (14, false)] true) [0, 1, 2, 3, 5, 6, 7, 8, 10, 11, 12, 13, 4, 9, 14, 15, 16, 17] mixed (by kernel_rfl) ?_; intro K hK
  refine eM ?_
  refine eF fo57_0 ?_
  refine eL sh3 ?_
  refine eP (fun H hH => yv_to (y := lst 1 fI ([x12.1.Qty] : List Int)) (yv_buildSlice (ps := [(0, _)]) (rows := [[int x12.1.Qty]]) rfl Tryz.underlying22 bz3 (.cons rfl .nil) (by kernel_rfl) rfl rfl rfl) rfl) ?_
  refine eM ?_
  refine eF fo57_1 ?_
  refine eL sh3 ?_
  refine eP (fun H hH => yv_to (y := lst 1 fI ([x12.1.Value] : List Int)) (yv_buildSlice (ps := [(0, _)]) (rows := [[int x12.1.Value]]) rfl Tryz.underlying22 bz3 (.cons rfl .nil) (by kernel_rfl) rfl rfl rfl) rfl) ?_
  refine eM ?_
  refine eF fo57_2 ?_
  refine eL sh3 ?_
  refine eP (fun H hH => yv_to (y := lst 1 fI ([x12.1.Profit] : List Int)) (yv_buildSlice (ps := [(0, _)]) (rows := [[int x12.1.Profit]]) rfl Tryz.underlying22 bz3 (.cons rfl .nil) (by kernel_rfl) rfl rfl rfl) rfl) ?_
  obtain ⟨x14, e14, h1⟩ := bnd_e h1
  obtain ⟨p15, h1⟩ := asrt_e h1
  refine de_eff rfl rfl rfl rfl (yl_appT (g := fI) (l := y0_5) (m := ([x12.1.Qty] : List Int)) .any rfl Tryz.underlying22 bz3 by3 rfl rfl rfl rfl rfl rfl rfl rfl rfl rfl (Eq.symm rfl) (.refl _) (fun _ => rfl) e14 p15) (by rintro _ _ ⟨v16, -, rfl, rfl⟩; exact ⟨rfl, trivial⟩) ?_; rintro _ _ ⟨v16, -, rfl, rfl⟩
  obtain ⟨x17, e17, h1⟩ := bnd_e h1
  obtain ⟨p18, h1⟩ := asrt_e h1
  refine de_eff rfl rfl rfl rfl (yl_appT (g := fI) (l := y0_6) (m := ([x12.1.Value] : List Int)) .any rfl Tryz.underlying22 bz3 by3 rfl rfl rfl rfl rfl rfl rfl rfl rfl rfl (Eq.symm rfl) (.refl _) (fun _ => rfl) e17 p18) (by rintro _ _ ⟨v19, -, rfl, rfl⟩; exact ⟨rfl, trivial⟩) ?_; rintro _ _ ⟨v19, -, rfl, rfl⟩
  obtain ⟨x20, e20, h1⟩ := bnd_e h1
  obtain ⟨p21, h1⟩ := asrt_e h1
  refine de_eff rfl rfl rfl rfl (yl_appT (g := fI) (l := y0_7) (m := ([x12.1.Profit] : List Int)) .any rfl Tryz.underlying22 bz3 by3 rfl rfl rfl rfl rfl rfl rfl rfl rfl rfl (Eq.symm rfl) (.refl _) (fun _ => rfl) e20 p21) (by rintro _ _ ⟨v22, -, rfl, rfl⟩; exact trivial) ?_; rintro _ _ ⟨v22, -, rfl, rfl⟩
  iterate 3 refine eA ?_
  refine de_nil (hK _ ?_)
  refine tc tbk 2 (.mk ?_)
  refine ni tbk h1 fun x23 h1 => ?_
  refine tr tbk 2 (.mk ?_)
  exact bk (x23, x14, x17, x20) (v16, v19, v22) h1 leA
  rintro ⟨y1_4, y1_5, y1_6⟩ ⟨w1_1, w1_2, w1_3⟩ h0
  replace h0 := p2_e h0
  replace h0 := p2_e h0
  refine tc tbk 3 (.mk ?_)
  obtain ⟨x24, e24, h0⟩ := bind_e h0
  refine sY (yv_callT (v := .tup [int x24.1, int x24.2]) rfl rfl (.cons rfl .nil) cal153 (.cons (cv_lst rfl rfl rfl rfl rfl (Eq.symm rfl)) .nil) (d_money_Sum_c e24) rfl) ?_
  refine tr tbk 9 (.mk ?_)
  obtain ⟨x25, e25, h0⟩ := bind_e h0
  refine sY (yv_callT (v := .tup [int x25.1, int x25.2]) rfl rfl (.cons rfl .nil) cal153 (.cons (cv_lst rfl rfl rfl rfl rfl (Eq.symm rfl)) .nil) (d_money_Sum_c e25) rfl) ?_
  refine tr tbk 9 (.mk ?_)
  obtain ⟨x26, e26, h0⟩ := bind_e h0
  refine sY (yv_callT (v := .tup [int x26.1, int x26.2]) rfl rfl (.cons rfl .nil) cal153 (.cons (cv_lst rfl rfl rfl rfl rfl (Eq.symm rfl)) .nil) (d_money_Sum_c e26) rfl) ?_
  refine tr tbk 15 (.mk ?_)
  obtain ⟨x27, e27, h0⟩ := bnd_e h0
  refine sY (yv_max3 rfl rfl rfl rfl e27) ?_
  refine nb tbk h0 fun x28 h0 => ?_
  refine sS ⟨57, 3, true, true, v5, [[int x24.1, int x25.1, int x26.1]]⟩ sh57 ?_
  refine tr tbk 2 (.mk ?_)
  obtain rfl := nxt_e h0
  refine wR hret (rC sh57 (rT .nil)) ?_
  exact .refl _
def d_stock_steady_L1 (x9 : GPool) : Nat → Int → (List Int) → Option ((List Int))
  | 0, _, _ => none
  | n + 1, y1_2, y1_3 =>
    bnd (decide (y1_2 < (x9.Layers.length : Int))) fun x11 =>
    cond x11 ((ix x9.Layers y1_2).bind fun x12 =>
    bnd (w64 (0 - x12.Profit)) fun x14 =>
    bnd (if x14 > x12.Profit then x14 else x12.Profit) fun x15 =>
    bnd (y1_3 ++ ([x15] : List Int)) fun x16 =>
    asrt (x16.length ≤ 68719476736) <|
    bnd (w64 (y1_2 + 1)) fun x19 =>
    d_stock_steady_L1 x9 n (x19 : Int) (x16 : List Int)) (some (y1_3 : List Int))
def d_stock_steady_L0 (a1 : GState) (a2 : Int) (a3 : Int) : Nat → Int → (List Int) → Option ((List Int))
  | 0, _, _ => none
  | n + 1, y0_2, y0_3 =>
    bnd (decide (y0_2 < 2)) fun x7 =>
    cond x7 ((show Option ((List Int)) from
    (d_stock_At a1 a2 a3 y0_2).bind fun x9 =>
    (show Option ((List Int)) from
    d_stock_steady_L1 x9 n (0 : Int) (y0_3 : List Int)).bind <| fun y2_2 =>
    some (y2_2 : List Int)).bind <| fun y3_2 =>
    bnd (w64 (y0_2 + 1)) fun x20 =>
    d_stock_steady_L0 a1 a2 a3 n (x20 : Int) (y3_2 : List Int)) (some (y0_3 : List Int))
def d_stock_steady (n : Nat) (a1 : GState) (a2 : Int) (a3 : Int) : Option (Bool) :=
(show Option ((List Int)) from
d_stock_steady_L0 a1 a2 a3 n (0 : Int) (([] : List Int) : List Int)).bind <| fun y4_2 =>
(d_money_Sum n y4_2).bind fun x21 =>
bnd (decide (x21.2 = 0)) fun x22 =>
some ((x22 : Bool))
theorem d_stock_steady_c {n : Nat} {a1 : GState} {a2 : Int} {a3 : Int} {r : Bool} (h0 : d_stock_steady n a1 a2 a3 = some r) : PP Tryz.prog 128 [.agg (GState.av a1), int a2, int a3] (fun y => y = boo r) := by
  unfold d_stock_steady at h0
  refine pp_of_pc (R0 := fun y H => Cv (frzH H) y (boo r)) ?_ (fun y H hc => ⟨_, rfl, pvB r, hc⟩)
  refine pcw (c := _) Tryz.func128 rfl rfl ?_; intro Q hret hnorm
  refine tc tbk 2 (.mk ?_)
  refine sB 1 fun v4 => ?_
  refine tr tbk 11 (.mk ?_)
  refine jn h0 [6] [] (fun (a : (List Int)) (k : Nat) => [(7, .sl 4 k 0 a.length)]) (fun a k => [(4, ⟨3, 1, true, true, k, a.map fI⟩)]) ⟨fun j5 h1 => ?_, ?_⟩
  refine tc tbk 1 (.mk ?_)
  refine c_nilobj 7 4 3 1 rfl rfl ?_; intro v6
  refine lp (fun n (a : Int × (List Int)) => d_stock_steady_L0 a1 a2 a3 n a.1 a.2) ((0 : Int), (([] : List Int) : List Int)) v6 h1 [1, 2, 3, 6] [1] (fun (a : Int × (List Int)) (k : Nat) => [(7, .sl 4 k 0 a.2.length), (13, int a.1)]) (fun a k => [(4, ⟨3, 1, true, true, k, a.2.map fI⟩)]) (fun _ => rfl) ⟨leA, ?_⟩
  rintro n ⟨y0_2, y0_3⟩ w0_1 hm h1
  replace h1 : d_stock_steady_L0 a1 a2 a3 (n + 1) y0_2 y0_3 = some _ := h1
  rw [d_stock_steady_L0] at h1
  refine tc tbk 2 (.mk ?_)
  refine nb tbk h1 fun x7 h1 => ?_
  refine tr tbk 2 (.mk ?_)
  cases x7
  replace h1 := cf h1
  refine tc tbk 2 (.mk ?_)
  exact lf h1 w0_1 leA
  replace h1 := ct h1
  refine tc tbk 3 (.mk ?_)
  refine jn h1 [1, 2, 3, 6, 13] [1] (fun (a : (List Int)) (k : Nat) => [(7, .sl 4 k 0 a.length)]) (fun a k => [(4, ⟨3, 1, true, true, k, a.map fI⟩)]) ⟨fun j8 h2 => ?_, ?_⟩
  refine tc tbk 12 (.mk ?_)
  obtain ⟨x9, e9, h2⟩ := bind_e h2
  refine sC cal139 (d_stock_At_c e9) ?_
  refine tr tbk 1 (.mk ?_)
  refine sY (yv_len_sl rfl Tryz.underlying95 rfl (lst_len _)) ?_
  refine tr tbk 2 (.mk ?_)
  refine jn h2 [1, 2, 3, 6, 13] [1] (fun (a : (List Int)) (k : Nat) => [(7, .sl 4 k 0 a.length)]) (fun a k => [(4, ⟨3, 1, true, true, k, a.map fI⟩)]) ⟨fun j10 h3 => ?_, ?_⟩
  refine tc tbk 1 (.mk ?_)
  refine lp (fun n (a : Int × (List Int)) => d_stock_steady_L1 x9 n a.1 a.2) ((0 : Int), (y0_3 : List Int)) w0_1 h3 [1, 2, 3, 6, 13, 21, 22] [1] (fun (a : Int × (List Int)) (k : Nat) => [(7, .sl 4 k 0 a.2.length), (23, int a.1)]) (fun a k => [(4, ⟨3, 1, true, true, k, a.2.map fI⟩)]) (fun _ => rfl) ⟨leA, ?_⟩
  rintro n ⟨y1_2, y1_3⟩ w1_1 hm h3
  replace h3 : d_stock_steady_L1 x9 (n + 1) y1_2 y1_3 = some _ := h3
  rw [d_stock_steady_L1] at h3
  refine tc tbk 2 (.mk ?_)
  refine nb tbk h3 fun x11 h3 => ?_
  refine tr tbk 2 (.mk ?_)
  cases x11
  replace h3 := cf h3
  refine tc tbk 2 (.mk ?_)
  exact lf h3 w1_1 leA
  replace h3 := ct h3
  refine tc tbk 6 (.mk ?_)
  obtain ⟨x12, e12, h3⟩ := bind_e h3
  refine sY (yv_ixT rfl Tryz.underlying95 sh57 rfl rfl e12) ?_
  refine tr tbk 1 (.mk ?_)
  refine sA 2 z57 fun v13 => ?_
  refine sS ⟨57, 3, true, true, v13, [[int x12.Qty, int x12.Value, int x12.Profit]]⟩ sh57 ?_
  refine tr tbk 7 (.mk ?_)
  refine ni tbk h3 fun x14 h3 => ?_
  obtain ⟨x15, e15, h3⟩ := bnd_e h3
  refine sY (yv_max rfl rfl rfl e15) ?_
  refine sY (yv_to (y := lst 1 fI ([x15] : List Int)) (yv_buildSlice (ps := [(0, _)]) (rows := [[int x15]]) rfl Tryz.underlying22 bz3 (.cons rfl .nil) (by kernel_rfl) rfl rfl rfl) rfl) ?_
  obtain ⟨x16, e16, h3⟩ := bnd_e h3
  obtain ⟨p17, h3⟩ := asrt_e h3
  refine rse rfl rfl rfl (yl_appT (g := fI) (l := y1_3) (m := ([x15] : List Int)) .any rfl Tryz.underlying22 bz3 by3 rfl rfl rfl rfl rfl rfl rfl rfl rfl rfl (Eq.symm rfl) (.refl _) (fun _ => rfl) e16 p17) ?_; rintro _ _ ⟨v18, -, rfl, rfl⟩
  refine tr tbk 4 (.mk ?_)
  refine ni tbk h3 fun x19 h3 => ?_
  refine tr tbk 2 (.mk ?_)
  exact bk (x19, x16) v18 h3 leA
  rintro y2_2 w2_1 h2
  refine tc tbk 1 (.mk ?_)
  exact lf h2 w2_1 leA
  rintro y3_2 w3_1 h1
  refine tc tbk 1 (.mk ?_)
  refine ni tbk h1 fun x20 h1 => ?_
  refine tr tbk 2 (.mk ?_)
  exact bk (x20, y3_2) w3_1 h1 leA
  rintro y4_2 w4_1 h0
  refine tc tbk 3 (.mk ?_)
  obtain ⟨x21, e21, h0⟩ := bind_e h0
  refine sY (yv_callT (v := .tup [int x21.1, int x21.2]) rfl rfl (.cons rfl .nil) cal153 (.cons (cv_lst rfl rfl rfl rfl rfl (Eq.symm rfl)) .nil) (d_money_Sum_c e21) rfl) ?_
  refine tr tbk 9 (.mk ?_)
  refine nb tbk h0 fun x22 h0 => ?_
  refine tr tbk 2 (.mk ?_)
  obtain rfl := nxt_e h0
  refine wR hret (rT .nil) ?_
  exact .refl _
def d_stock_Bring (n : Nat) (a1 : GState) (a2 : Int) (a3 : Int) (a4 : Int) (a5 : GLayer) : Option (GState × Int × Int × Int) :=
(d_stock_place a1 a2 a3 a4).bind fun x9 =>
bnd (decide (x9 < 0)) fun x10 =>
asrt (x10 = false) <|
(ix a1.Master.Methods a2).bind fun x11 =>
(ix x11 a3).bind fun x12 =>
(ix a1.Master.Costs a2).bind fun x13 =>
(ix x13 a3).bind fun x14 =>
(ix a1.Ents a2).bind fun x15 =>
(ix x15.Pools x9).bind fun x16 =>
(d_pool_In n x12 x14 x16 a5).bind fun x17 =>
bnd (decide (x17.2.2 ≠ 0)) fun x19 =>
asrt (x19 = false) <|
(show Option ((Int × Bool × (List Int) × (List GRoll) × (List Int) × (List Int) × (List GEnt) × (List GPool))) from
(show Option ((Unit)) from
asrt (a1.Ents.length ≤ 68719476736) <|
(ix a1.Ents a2).bind fun x26 =>
some ()).bind <| fun _ =>
(ix a1.Ents a2).bind fun x27 =>
asrt (x27.Pools.length ≤ 68719476736) <|
(ix x27.Pools x9).bind fun x30 =>
bnd (x27.Pools.set (Int.toNat x9) (x17.1 : GPool)) fun x31 =>
some ((x27.Now : Int), (x27.Closed : Bool), (x27.Bal : List Int), (x27.Rolls : List GRoll), (x27.Prices : List Int), (x27.Down : List Int), (x27.Ahead : List GEnt), (x31 : List GPool))).bind <| p2 fun (y1_2 : Int) (q0 : Bool × (List Int) × (List GRoll) × (List Int) × (List Int) × (List GEnt) × (List GPool)) => (p2 fun (y1_3 : Bool) (q1 : (List Int) × (List GRoll) × (List Int) × (List Int) × (List GEnt) × (List GPool)) => (p2 fun (y1_5 : List Int) (q2 : (List GRoll) × (List Int) × (List Int) × (List GEnt) × (List GPool)) => (p2 fun (y1_6 : List GRoll) (q3 : (List Int) × (List Int) × (List GEnt) × (List GPool)) => (p2 fun (y1_7 : List Int) (q4 : (List Int) × (List GEnt) × (List GPool)) => (p2 fun (y1_8 : List Int) (q5 : (List GEnt) × (List GPool)) => (p2 fun (y1_9 : List GEnt) (y1_10 : List GPool) =>
(ix a1.Ents a2).bind fun x32 =>
(d_stock_worth n (⟨a1.Master, (a1.Ents.set (Int.toNat a2) (⟨y1_2, y1_3, y1_10, y1_5, y1_6, y1_7, y1_8, y1_9⟩ : GEnt)), a1.Receipts, a1.Sales, a1.Transits, a1.Done⟩ : GState) a2 a3).bind fun x33 =>
(show Option (Bool) from
bnd (!x33.2) fun x36 =>
cond x36 (some (true : Bool)) ((d_stock_steady n (⟨a1.Master, (a1.Ents.set (Int.toNat a2) (⟨y1_2, y1_3, y1_10, y1_5, y1_6, y1_7, y1_8, y1_9⟩ : GEnt)), a1.Receipts, a1.Sales, a1.Transits, a1.Done⟩ : GState) a2 a3).bind fun x37 =>
bnd (!x37) fun x38 =>
some (x38 : Bool))).bind <| fun y2_1 =>
asrt (y2_1 = false) <|
bnd (w64 (a5.Value - x17.2.1)) fun x39 =>
some (((⟨a1.Master, (a1.Ents.set (Int.toNat a2) (⟨y1_2, y1_3, y1_10, y1_5, y1_6, y1_7, y1_8, y1_9⟩ : GEnt)), a1.Receipts, a1.Sales, a1.Transits, a1.Done⟩ : GState) : GState), (x39 : Int), (x17.2.1 : Int), (0 : Int))) q5) q4) q3) q2) q1) q0
theorem d_stock_Bring_c {n : Nat} {a1 : GState} {a2 : Int} {a3 : Int} {a4 : Int} {a5 : GLayer} {r : GState × Int × Int × Int} (h0 : d_stock_Bring n a1 a2 a3 a4 a5 = some r) : PP Tryz.prog 74 [.agg (GState.av a1), int a2, int a3, int a4, .agg (GLayer.av a5)] (fun y => y = .tup [.agg (GState.av r.1), int r.2.1, int r.2.2.1, int r.2.2.2]) := by
  unfold d_stock_Bring at h0
  refine pp_of_pc (R0 := fun y H => Cv (frzH H) y (.tup [.agg (GState.av r.1), int r.2.1, int r.2.2.1, int r.2.2.2])) ?_ (fun y H hc => ⟨_, rfl, .tup (pvl4 ((fun (a : GState) => PV.agg (GState.pvc a)) (r.1)) (pvI (r.2.1)) (pvI (r.2.2.1)) (pvI (r.2.2.2))), hc⟩)
  refine pcw (c := _) Tryz.func74 rfl rfl ?_; intro Q hret hnorm
  refine tc tbk 2 (.mk ?_)
  refine sB 1 fun v6 => ?_
  refine sB 2 fun v7 => ?_
  refine sA 3 z31 fun v8 => ?_
  refine tr tbk 10 (.mk ?_)
  obtain ⟨x9, e9, h0⟩ := bind_e h0
  refine sC cal125 (d_stock_place_c e9) ?_
  refine tr tbk 6 (.mk ?_)
  refine nb tbk h0 fun x10 h0 => ?_
  refine tr tbk 1 (.mk ?_)
  replace h0 := asrt_e h0
  obtain ⟨rfl, h0⟩ := h0
  refine tc tbk 3 (.mk ?_)
  refine c_drawE [0, 1, 3, 0, 15, 31, 0, 127, 255, 0, 512, 1536, 0, 7680, 15872, 0, 65024, 130560, 0, 262144, 0, 1835008, 3932160, 8126464, 0, 33292288, 66846720, 0, 268435455, 536870911, 1073741823, 1073741823, 1073741823, 0, 10737418239, 30064771071, 68719476735] (rl [(0, [1]), (1, [1]), (2, [1]), (9, [1]), (10, [1]), (11, [1]), (18, [1]), (19, [1]), (27, [2])] []) (rl [(34, [])] [1, 2]) (rl [(33, false), (34, false)] true) [0, 1, 2, 3, 4, 5, 6, 7, 8, 9, 10, 11, 12, 13, 14, 15, 16, 17, 18, 19, 20, 21, 22, 23, 24, 25, 26, 27, 28, 29, 30, 31, 32, 33, 34, 35, 36] mixed (by kernel_rfl) ?_; intro K hK
  refine eF fo31_0 ?_
  refine eF fo25_3 ?_
  refine eL sh23 ?_
  refine eM ?_
  obtain ⟨x11, e11, h0⟩ := bind_e h0
  refine eP (fun H hH => yv_ixT rfl Tryz.underlying23 sh22 rfl rfl e11) ?_
  refine eP (fun H hH => yv_load rfl sh22 rfl (.pp _) rfl) ?_
  refine eM ?_
  obtain ⟨x12, e12, h0⟩ := bind_e h0
  refine eP (fun H hH => yv_ixT rfl Tryz.underlying22 sh3 rfl rfl e12) ?_
  refine eP (fun H hH => yv_load rfl sh3 rfl (.pp _) rfl) ?_
  refine eF fo31_0 ?_
  refine eF fo25_4 ?_
  refine eL sh23 ?_
  refine eM ?_
  obtain ⟨x13, e13, h0⟩ := bind_e h0
  refine eP (fun H hH => yv_ixT rfl Tryz.underlying23 sh22 rfl rfl e13) ?_
  refine eP (fun H hH => yv_load rfl sh22 rfl (.pp _) rfl) ?_
  refine eM ?_
  obtain ⟨x14, e14, h0⟩ := bind_e h0
  refine eP (fun H hH => yv_ixT rfl Tryz.underlying22 sh3 rfl rfl e14) ?_
  refine eP (fun H hH => yv_load rfl sh3 rfl (.pp _) rfl) ?_
  refine eF fo31_1 ?_
  refine eL sh26 ?_
  refine eM ?_
  obtain ⟨x15, e15, h0⟩ := bind_e h0
  refine eP (fun H hH => yv_to (y := .pp [int x15.Now, boo x15.Closed, lst 4 GPool.av x15.Pools, lst 1 fI x15.Bal, lst 11 GRoll.av x15.Rolls, lst 1 fI x15.Prices, lst 1 fI x15.Down, lst 8 GEnt.av x15.Ahead]) (yv_ixT rfl Tryz.underlying26 sh46 rfl rfl e15) (congrArg AV.pp (GEnt.av_eq x15))) ?_
  refine eP (fun H hH => yv_fieldAddr rfl fo46_2 rfl (.pp _) (.pp _ _)) ?_
  refine eP (fun H hH => yv_load rfl sh43 rfl (.pp _) rfl) ?_
  refine eM ?_
  obtain ⟨x16, e16, h0⟩ := bind_e h0
  refine eP (fun H hH => yv_ixT rfl Tryz.underlying43 sh98 rfl rfl e16) ?_
  refine eP (fun H hH => yv_load rfl sh98 rfl (.pp _) rfl) ?_
  refine eL sh57 ?_
  obtain ⟨x17, e17, h0⟩ := bind_e h0
  refine eP (fun H hH => yv_callP rfl rfl (.cons rfl (.cons rfl (.cons rfl (.cons rfl .nil)))) cal126 (CvL.refl _) (d_pool_In_c e17)) ?_
  refine eM ?_
  iterate 3 refine eX ?_
  refine de_eff rfl rfl rfl rfl (yl_alloc 4 .any rfl z98 rfl) (by rintro _ _ ⟨v18, -, rfl, rfl⟩; exact ⟨rfl, rfl, trivial⟩) ?_; rintro _ _ ⟨v18, -, rfl, rfl⟩
  refine de_eff0 rfl rfl rfl rfl (Yield.weak (yl_ob (ob' := (⟨98, 4, true, true, v18, [[lst 3 GLayer.av x17.1.Layers, int x17.1.Pend.a0, int x17.1.Pend.a1, int x17.1.Pend.a2]]⟩ : AObj)) (yl_store rfl sh98 rfl rfl rfl rfl rfl rfl rfl rfl rfl) rfl) (fun _ h => h) (fun _ _ => trivial)) (by rintro _ _ ⟨rfl, rfl⟩; exact trivial) ?_; rintro _ _ ⟨rfl, rfl⟩
  iterate 2 refine eA ?_
  refine de_nil (hK _ ?_)
  refine tc tbk 4 (.mk ?_)
  refine nb tbk h0 fun x19 h0 => ?_
  refine tr tbk 1 (.mk ?_)
  replace h0 := asrt_e h0
  obtain ⟨rfl, h0⟩ := h0
  refine tc tbk 5 (.mk ?_)
  refine sY (yv_build (cs := (GState.av a1)) (ps := [(0, _)]) rfl pl173 z173 rfl (.cons rfl .nil) (by kernel_rfl)) ?_
  refine sA 5 z173 fun v20 => ?_
  refine sS ⟨173, 10, true, true, v20, [(GState.av a1)]⟩ sh173 ?_
  refine tr tbk 6 (.mk ?_)
  obtain ⟨j21, h1, h0⟩ := bind_e h0
  refine rse (Out := fun y H' => (∃ (a : Int × Bool × (List Int) × (List GRoll) × (List Int) × (List Int) × (List GEnt) × (List GPool)) (k : Nat × Nat), a = j21 ∧ y = .tup [] ∧ H' = hk [(1, ⟨31, 10, true, true, v6, [(GState.av a1)]⟩), (2, ⟨57, 3, true, true, v7, [[int a5.Qty, int a5.Value, int a5.Profit]]⟩), (3, ⟨31, 10, true, true, v8, [[int 0, int 0, .sc (.slice none 0 0), .sc (.slice none 0 0), .sc (.slice none 0 0), .sc (.slice none 0 0), .sc (.slice none 0 0), .sc (.slice none 0 0), .sc (.slice none 0 0), int 0]]⟩), (4, ⟨98, 4, true, true, v18, [[lst 3 GLayer.av x17.1.Layers, int x17.1.Pend.a0, int x17.1.Pend.a1, int x17.1.Pend.a2]]⟩), (5, ⟨173, 10, true, true, v20, [[int a1.Master.Entities, int a1.Master.Periods, lst 1 fI a1.Master.Weights, lst 1 (fL 1 fI) a1.Master.Methods, lst 1 (fL 1 fI) a1.Master.Costs, .sl 7 k.1 0 a1.Ents.length, lst 8 GReceipt.av a1.Receipts, lst 9 GSale.av a1.Sales, lst 6 GTransit.av a1.Transits, int a1.Done]]⟩), (7, ⟨46, 8, true, true, k.1, (a1.Ents.map GEnt.av).set (Int.toNat a2) [int a.1, boo a.2.1, .sl 8 k.2 0 a.2.2.2.2.2.2.2.length, lst 1 fI a.2.2.1, lst 11 GRoll.av a.2.2.2.1, lst 1 fI a.2.2.2.2.1, lst 1 fI a.2.2.2.2.2.1, lst 8 GEnt.av a.2.2.2.2.2.2.1]⟩), (8, ⟨98, 4, true, true, k.2, a.2.2.2.2.2.2.2.map GPool.av⟩)])) rfl rfl rfl (yl_call rfl rfl (.cons rfl (.cons rfl (.cons rfl (.cons rfl .nil)))) cal127 ?_) ?_
  refine pcw (c := _) Tryz.func127 rfl rfl ?_; intro Q hret hnorm
  refine tc tbk 2 (.mk ?_)
  refine sB 6 fun v22 => ?_
  refine tr tbk 5 (.mk ?_)
  obtain ⟨j23, h2, h1⟩ := bind_e h1
  refine rse (Out := fun y H' => (∃ (a : Unit) (k : Nat), a = j23 ∧ y = .pt 7 k (Int.toNat a2) 0 ∧ H' = hk [(1, ⟨31, 10, true, true, v6, [(GState.av a1)]⟩), (2, ⟨57, 3, true, true, v7, [[int a5.Qty, int a5.Value, int a5.Profit]]⟩), (3, ⟨31, 10, true, true, v8, [[int 0, int 0, .sc (.slice none 0 0), .sc (.slice none 0 0), .sc (.slice none 0 0), .sc (.slice none 0 0), .sc (.slice none 0 0), .sc (.slice none 0 0), .sc (.slice none 0 0), int 0]]⟩), (4, ⟨98, 4, true, true, v18, [[lst 3 GLayer.av x17.1.Layers, int x17.1.Pend.a0, int x17.1.Pend.a1, int x17.1.Pend.a2]]⟩), (5, ⟨173, 10, true, true, v20, [[int a1.Master.Entities, int a1.Master.Periods, lst 1 fI a1.Master.Weights, lst 1 (fL 1 fI) a1.Master.Methods, lst 1 (fL 1 fI) a1.Master.Costs, .sl 7 k 0 a1.Ents.length, lst 8 GReceipt.av a1.Receipts, lst 9 GSale.av a1.Sales, lst 6 GTransit.av a1.Transits, int a1.Done]]⟩), (6, ⟨98, 4, true, true, v22, [[lst 3 GLayer.av x17.1.Layers, int x17.1.Pend.a0, int x17.1.Pend.a1, int x17.1.Pend.a2]]⟩), (7, ⟨46, 8, true, true, k, a1.Ents.map GEnt.av⟩)])) rfl rfl rfl (yl_call rfl rfl (.cons rfl (.cons rfl .nil)) cal131 ?_) ?_
  refine pcw (c := _) Tryz.func131 rfl rfl ?_; intro Q hret hnorm
  refine tc tbk 12 (.mk ?_)
  obtain ⟨p24, h2⟩ := asrt_e h2
  refine rse rfl rfl rfl (yl_call rfl rfl (.cons rfl .nil) cal52 (pc_cv (clone52_c (id := 7) (l := a1.Ents) rfl p24) (.cons (.refl _) .nil))) ?_; rintro _ _ ⟨v25, rfl, rfl⟩
  refine tr tbk 3 (.mk ?_)
  refine sS ⟨173, 10, true, true, v20, [[int a1.Master.Entities, int a1.Master.Periods, lst 1 fI a1.Master.Weights, lst 1 (fL 1 fI) a1.Master.Methods, lst 1 (fL 1 fI) a1.Master.Costs, .sl 7 v25 0 a1.Ents.length, lst 8 GReceipt.av a1.Receipts, lst 9 GSale.av a1.Sales, lst 6 GTransit.av a1.Transits, int a1.Done]]⟩ sh26 ?_
  refine tr tbk 9 (.mk ?_)
  obtain ⟨x26, e26, h2⟩ := bind_e h2
  refine sY (yv_ixO rfl Tryz.underlying26 sh46 rfl rfl rfl rfl rfl (Eq.symm rfl) (List.length_map _) e26) ?_
  refine tr tbk 2 (.mk ?_)
  obtain rfl := nxt_e h2
  refine w_ret (hret _ _ (hk [(1, ⟨31, 10, true, true, v6, [(GState.av a1)]⟩), (2, ⟨57, 3, true, true, v7, [[int a5.Qty, int a5.Value, int a5.Profit]]⟩), (3, ⟨31, 10, true, true, v8, [[int 0, int 0, .sc (.slice none 0 0), .sc (.slice none 0 0), .sc (.slice none 0 0), .sc (.slice none 0 0), .sc (.slice none 0 0), .sc (.slice none 0 0), .sc (.slice none 0 0), int 0]]⟩), (4, ⟨98, 4, true, true, v18, [[lst 3 GLayer.av x17.1.Layers, int x17.1.Pend.a0, int x17.1.Pend.a1, int x17.1.Pend.a2]]⟩), (5, ⟨173, 10, true, true, v20, [[int a1.Master.Entities, int a1.Master.Periods, lst 1 fI a1.Master.Weights, lst 1 (fL 1 fI) a1.Master.Methods, lst 1 (fL 1 fI) a1.Master.Costs, .sl 7 v25 0 a1.Ents.length, lst 8 GReceipt.av a1.Receipts, lst 9 GSale.av a1.Sales, lst 6 GTransit.av a1.Transits, int a1.Done]]⟩), (6, ⟨98, 4, true, true, v22, [[lst 3 GLayer.av x17.1.Layers, int x17.1.Pend.a0, int x17.1.Pend.a1, int x17.1.Pend.a2]]⟩), (7, ⟨46, 8, true, true, v25, a1.Ents.map GEnt.av⟩)]) (.tmp rfl .nil) (HK.le ⟨rfl, rfl, rfl, rfl, rfl, rfl, rfl, trivial⟩) ?_)
  exact ⟨(), v25, rfl, rfl, rfl⟩
  rintro y _ ⟨_, w0_1, rfl, hc, rfl⟩
  subst hc
  refine tr tbk 6 (.mk ?_)
  obtain ⟨x27, e27, h1⟩ := bind_e h1
  refine sY (yv_nilCheck rfl rfl (.pt rfl rfl (ix_get' e27 (GEnt.av_eq _)))) ?_
  refine sY (yv_fieldAddr rfl fo46_2 rfl (.pt rfl rfl (ix_get' e27 (GEnt.av_eq _))) (.pt _ _ _ _ _)) ?_
  refine sY (yv_load rfl sh43 rfl (.pt rfl rfl (ix_get' e27 (GEnt.av_eq _))) rfl) ?_
  obtain ⟨p28, h1⟩ := asrt_e h1
  refine rse rfl rfl rfl (yl_call rfl rfl (.cons rfl .nil) cal96 (pc_cv (clone96_c (id := 8) (l := x27.Pools) rfl p28) (.cons (.refl _) .nil))) ?_; rintro _ _ ⟨v29, rfl, rfl⟩
  refine sY (yv_nilCheck rfl rfl (.pt rfl rfl (ix_get' e27 (GEnt.av_eq _)))) ?_
  refine sY (yv_fieldAddr rfl fo46_2 rfl (.pt rfl rfl (ix_get' e27 (GEnt.av_eq _))) (.pt _ _ _ _ _)) ?_
  refine rsstore rfl rfl (yl_ob (ob' := (⟨46, 8, true, true, w0_1, (a1.Ents.map GEnt.av).set (Int.toNat a2) [int x27.Now, boo x27.Closed, .sl 8 v29 0 x27.Pools.length, lst 1 fI x27.Bal, lst 11 GRoll.av x27.Rolls, lst 1 fI x27.Prices, lst 1 fI x27.Down, lst 8 GEnt.av x27.Ahead]⟩ : AObj)) (yl_store rfl sh43 rfl rfl rfl rfl rfl (ix_get' e27 (GEnt.av_eq _)) rfl rfl rfl) (ob_eq rfl)) ?_
  refine tr tbk 1 (.mk ?_)
  refine c_drawE [0, 1, 3, 7, 0, 0, 63, 127] (rl [(1, [7]), (2, [7]), (3, [7]), (5, [6]), (6, [8])] []) (rl [(7, [])] [6, 7, 8]) (rl [(7, false)] true) [0, 1, 2, 3, 4, 5, 6, 7] mixed (by kernel_rfl) ?_; intro K hK
  refine eM ?_
  refine eN (hr := set_get e27) ?_
  refine eF fo46_2 (hr := set_get e27) ?_
  refine eL sh43 (hr := set_get e27) ?_
  refine eM ?_
  refine eL sh98 ?_
  obtain ⟨x30, e30, h1⟩ := bind_e h1
  refine de_pure rfl rfl rfl rfl (fun H hH => yv_ixO rfl Tryz.underlying43 sh98 rfl rfl ((hH _ (by decide)).trans rfl) rfl rfl (Eq.symm rfl) (List.length_map _) e30) ?_
  obtain ⟨x31, e31, h1⟩ := bnd_e h1
  have fx31 := ix_set e30 e31; have lx31 := len_setV e31 (rfl : x27.Pools.length = x27.Pools.length)
  refine de_eff0 rfl rfl rfl rfl (Yield.weak (yl_ob (ob' := (⟨98, 4, true, true, v29, x31.map GPool.av⟩ : AObj)) (yl_store rfl sh98 rfl rfl rfl rfl rfl (ix_get e30) rfl rfl rfl) (ob_eq (map_setV e31))) (fun _ h => h) (fun _ _ => trivial)) (by rintro _ _ ⟨rfl, rfl⟩; exact trivial) ?_; rintro _ _ ⟨rfl, rfl⟩
  refine de_nil (hK _ ?_)
  obtain rfl := nxt_e h1
  refine c_nil (hnorm _ _ (hk [(1, ⟨31, 10, true, true, v6, [(GState.av a1)]⟩), (2, ⟨57, 3, true, true, v7, [[int a5.Qty, int a5.Value, int a5.Profit]]⟩), (3, ⟨31, 10, true, true, v8, [[int 0, int 0, .sc (.slice none 0 0), .sc (.slice none 0 0), .sc (.slice none 0 0), .sc (.slice none 0 0), .sc (.slice none 0 0), .sc (.slice none 0 0), .sc (.slice none 0 0), int 0]]⟩), (4, ⟨98, 4, true, true, v18, [[lst 3 GLayer.av x17.1.Layers, int x17.1.Pend.a0, int x17.1.Pend.a1, int x17.1.Pend.a2]]⟩), (5, ⟨173, 10, true, true, v20, [[int a1.Master.Entities, int a1.Master.Periods, lst 1 fI a1.Master.Weights, lst 1 (fL 1 fI) a1.Master.Methods, lst 1 (fL 1 fI) a1.Master.Costs, .sl 7 w0_1 0 a1.Ents.length, lst 8 GReceipt.av a1.Receipts, lst 9 GSale.av a1.Sales, lst 6 GTransit.av a1.Transits, int a1.Done]]⟩), (7, ⟨46, 8, true, true, w0_1, (a1.Ents.map GEnt.av).set (Int.toNat a2) [int x27.Now, boo x27.Closed, .sl 8 v29 0 x31.length, lst 1 fI x27.Bal, lst 11 GRoll.av x27.Rolls, lst 1 fI x27.Prices, lst 1 fI x27.Down, lst 8 GEnt.av x27.Ahead]⟩), (8, ⟨98, 4, true, true, v29, x31.map GPool.av⟩)]) .nil (HK.le ⟨rfl, rfl, rfl, rfl, rfl, (by first | rfl | exact lx31 ▸ rfl), rfl, trivial⟩) ?_)
  exact ⟨(x27.Now, x27.Closed, x27.Bal, x27.Rolls, x27.Prices, x27.Down, x27.Ahead, x31), (w0_1, v29), rfl, rfl, rfl⟩
  rintro y _ ⟨⟨y1_2, y1_3, y1_5, y1_6, y1_7, y1_8, y1_9, y1_10⟩, ⟨w1_1, w1_4⟩, rfl, hc, rfl⟩
  replace h0 := p2_e h0
  replace h0 := p2_e h0
  replace h0 := p2_e h0
  replace h0 := p2_e h0
  replace h0 := p2_e h0
  replace h0 := p2_e h0
  replace h0 := p2_e h0
  subst hc
  obtain ⟨x32, e32, h0⟩ := bind_e h0
  refine tr tbk 8 (.mk ?_)
  obtain ⟨x33, e33, h0⟩ := bind_e h0
  refine sY (yv_callT (v := .tup [.agg [int x33.1.Qty, int x33.1.Value, int x33.1.Profit], boo x33.2]) rfl rfl (.cons rfl (.cons rfl (.cons rfl .nil))) cal100 (.cons (CvL.agg (.cons (.refl _) (.cons (.refl _) (.cons (.refl _) (.cons (.refl _) (.cons (.refl _) (.cons (cv_ov rfl rfl rfl rfl rfl (Eq.symm rfl) e32 (cvl_to (.cons (.refl _) (.cons (.refl _) (.cons (cv_lst rfl rfl rfl rfl rfl (Eq.symm rfl)) (.cons (.refl _) (.cons (.refl _) (.cons (.refl _) (.cons (.refl _) (.cons (.refl _) .nil)))))))) (GEnt.av_eq _))) (.cons (.refl _) (.cons (.refl _) (.cons (.refl _) (.cons (.refl _) .nil))))))))))) (.cons (.refl _) (.cons (.refl _) .nil))) (d_stock_worth_c e33) rfl) ?_
  refine tr tbk 3 (.mk ?_)
  refine sA 9 z57 fun v34 => ?_
  refine sS ⟨57, 3, true, true, v34, [[int x33.1.Qty, int x33.1.Value, int x33.1.Profit]]⟩ sh57 ?_
  refine tr tbk 3 (.mk ?_)
  refine jn h0 [5, 9, 10, 11, 12, 13, 17] [1, 2, 3, 5, 7, 8] (fun (a : Bool) (k : Unit) => [(88, boo a)]) (fun a k => []) ⟨fun j35 h1 => ?_, ?_⟩
  refine tc tbk 2 (.mk ?_)
  refine nb tbk h1 fun x36 h1 => ?_
  refine tr tbk 1 (.mk ?_)
  cases x36
  replace h1 := cf h1
  refine tr tbk 4 (.mk ?_)
  obtain ⟨x37, e37, h1⟩ := bind_e h1
  refine sY (yv_callT (v := boo x37) rfl rfl (.cons rfl (.cons rfl (.cons rfl .nil))) cal128 (.cons (CvL.agg (.cons (.refl _) (.cons (.refl _) (.cons (.refl _) (.cons (.refl _) (.cons (.refl _) (.cons (cv_ov rfl rfl rfl rfl rfl (Eq.symm rfl) e32 (cvl_to (.cons (.refl _) (.cons (.refl _) (.cons (cv_lst rfl rfl rfl rfl rfl (Eq.symm rfl)) (.cons (.refl _) (.cons (.refl _) (.cons (.refl _) (.cons (.refl _) (.cons (.refl _) .nil)))))))) (GEnt.av_eq _))) (.cons (.refl _) (.cons (.refl _) (.cons (.refl _) (.cons (.refl _) .nil))))))))))) (.cons (.refl _) (.cons (.refl _) .nil))) (d_stock_steady_c e37) rfl) ?_
  refine nb tbk h1 fun x38 h1 => ?_
  refine tr tbk 2 (.mk ?_)
  exact lf h1 () leA
  replace h1 := ct h1
  refine tr tbk 8 (.mk ?_)
  exact lf h1 () leA
  rintro y2_1 _ h0
  replace h0 := asrt_e h0
  obtain ⟨rfl, h0⟩ := h0
  refine tc tbk 3 (.mk ?_)
  refine c_drawE [0, 1, 0, 4, 0, 28, 0, 3, 191, 511, 1023] (rl [(0, [5]), (1, [5]), (2, [2]), (3, [2])] []) (rl [(7, [2])] [2, 5]) (rl [(7, false)] true) [0, 1, 2, 3, 4, 5, 6, 7, 8, 9, 10] mixed (by kernel_rfl) ?_; intro K hK
  refine eF fo173_0 ?_
  refine eL sh31 ?_
  refine eF fo57_1 ?_
  refine eL sh3 ?_
  refine eM ?_
  obtain ⟨x39, e39, h0⟩ := bnd_e h0
  refine eP (fun H hH => yv_sub rfl rfl rfl e39) ?_
  refine eM ?_
  refine de_eff0 rfl rfl rfl rfl (Yield.weak (yl_ob (ob' := (⟨31, 10, true, true, v8, [[int a1.Master.Entities, int a1.Master.Periods, lst 1 fI a1.Master.Weights, lst 1 (fL 1 fI) a1.Master.Methods, lst 1 (fL 1 fI) a1.Master.Costs, .sl 7 w1_1 0 a1.Ents.length, lst 8 GReceipt.av a1.Receipts, lst 9 GSale.av a1.Sales, lst 6 GTransit.av a1.Transits, int a1.Done]]⟩ : AObj)) (yl_store rfl sh31 rfl rfl rfl rfl rfl rfl rfl rfl rfl) rfl) (fun _ h => h) (fun _ _ => trivial)) (by rintro _ _ ⟨rfl, rfl⟩; exact ⟨rfl, trivial⟩) ?_; rintro _ _ ⟨rfl, rfl⟩
  iterate 3 refine eA ?_
  refine de_nil (hK _ ?_)
  obtain rfl := nxt_e h0
  refine wR hret (rC sh31 (rT (rT (rT .nil)))) ?_
  exact CvL.tup (.cons (CvL.agg (.cons (.refl _) (.cons (.refl _) (.cons (.refl _) (.cons (.refl _) (.cons (.refl _) (.cons (cv_ov rfl rfl rfl rfl rfl (Eq.symm rfl) e32 (cvl_to (.cons (.refl _) (.cons (.refl _) (.cons (cv_lst rfl rfl rfl rfl rfl (Eq.symm rfl)) (.cons (.refl _) (.cons (.refl _) (.cons (.refl _) (.cons (.refl _) (.cons (.refl _) .nil)))))))) (GEnt.av_eq _))) (.cons (.refl _) (.cons (.refl _) (.cons (.refl _) (.cons (.refl _) .nil))))))))))) (.cons (.refl _) (.cons (.refl _) (.cons (.refl _) .nil))))
def d_receive_Do (n : Nat) (a1 : GState) (a2 : GOp) : Option (GState × Int) :=
bnd (decide (a2.Kind ≠ 1)) fun x6 =>
asrt (x6 = false) <|
(show Option (GState × Int) from
(show Option ((Int)) from
(d_stock_Ready a1 a2.E a2.Item).bind fun x13 =>
some (x13 : Int)).bind <| fun y0_1 =>
bnd (decide (y0_1 ≠ 0)) fun x14 =>
cond x14 (some ((a1 : GState), (y0_1 : Int))) ((show Option ((Int)) from
bnd (decide ((a1.Receipts.length : Int) ≥ 40)) fun x16 =>
cond x16 (some (6 : Int)) (some (y0_1 : Int))).bind <| fun y1_1 =>
bnd (decide (y1_1 ≠ 0)) fun x17 =>
cond x17 (some ((a1 : GState), (y1_1 : Int))) ((show Option ((GState × Int × Int × Int)) from
(d_stock_Bring n a1 a2.E a2.Item a2.Loc (⟨a2.Qty, a2.Amount, 0⟩ : GLayer)).bind fun x19 =>
some ((x19.1 : GState), (x19.2.1 : Int), (x19.2.2.1 : Int), (x19.2.2.2 : Int))).bind <| p2 fun (y2_1 : GState) (q0 : Int × Int × Int) => (p2 fun (y2_2 : Int) (q1 : Int × Int) => (p2 fun (y2_3 : Int) (y2_4 : Int) =>
bnd (decide (y2_4 ≠ 0)) fun x20 =>
cond x20 (some ((y2_1 : GState), (y2_4 : Int))) ((show Option ((GState × Int)) from
bnd (w64 (0 - a2.Amount)) fun x22 =>
(d_stock_Post n y2_1 a2.E ([(⟨0, y2_2⟩ : GLine), (⟨6, y2_3⟩ : GLine), (⟨1, x22⟩ : GLine)] : List GLine)).bind fun x23 =>
some ((x23.1 : GState), (x23.2 : Int))).bind <| p2 fun (y3_1 : GState) (y3_2 : Int) =>
bnd (decide (y3_2 ≠ 0)) fun x24 =>
cond x24 (some ((y3_1 : GState), (y3_2 : Int))) ((show Option ((GState × Int)) from
(d_stock_Turn y3_1 a2.E a2.Item (⟨0, y2_2, 0, 0, 0, 0, 0, 0, 0, 0, 0⟩ : GRoll)).bind fun x26 =>
some ((x26.1 : GState), (x26.2 : Int))).bind <| p2 fun (y4_1 : GState) (y4_2 : Int) =>
bnd (decide (y4_2 ≠ 0)) fun x27 =>
cond x27 (some ((y4_1 : GState), (y4_2 : Int))) (some ((y4_1 : GState), (y4_2 : Int)))))) q1) q0))).bind <| p2 fun (y5_1 : GState) (y5_2 : Int) =>
bnd (decide (y5_2 ≠ 0)) fun x28 =>
cond x28 (some ((a1 : GState), (y5_2 : Int))) (asrt (y5_1.Receipts.length ≤ 68719476736) <|
bnd (y5_1.Receipts ++ ([(⟨a2.E, a2.Item, a2.Loc, a2.Qty, a2.Amount, a2.Qty, a2.Amount, 0⟩ : GReceipt)] : List GReceipt)) fun x32 =>
asrt (x32.length ≤ 68719476736) <|
some (((⟨y5_1.Master, y5_1.Ents, x32, y5_1.Sales, y5_1.Transits, y5_1.Done⟩ : GState) : GState), (0 : Int)))
theorem d_receive_Do_c {n : Nat} {a1 : GState} {a2 : GOp} {r : GState × Int} (h0 : d_receive_Do n a1 a2 = some r) : PP Tryz.prog 36 [.agg (GState.av a1), .agg (GOp.av a2)] (fun y => y = .tup [.agg (GState.av r.1), int r.2]) := by
  unfold d_receive_Do at h0
  refine pp_of_pc (R0 := fun y H => Cv (frzH H) y (.tup [.agg (GState.av r.1), int r.2])) ?_ (fun y H hc => ⟨_, rfl, .tup (pvl2 ((fun (a : GState) => PV.agg (GState.pvc a)) (r.1)) (pvI (r.2))), hc⟩)
  refine pcw (c := _) Tryz.func36 rfl rfl ?_; intro Q hret hnorm
  refine tc tbk 2 (.mk ?_)
  refine sB 1 fun v3 => ?_
  refine sB 2 fun v4 => ?_
  refine sA 3 z31 fun v5 => ?_
  refine tr tbk 8 (.mk ?_)
  refine nb tbk h0 fun x6 h0 => ?_
  refine tr tbk 1 (.mk ?_)
  replace h0 := asrt_e h0
  obtain ⟨rfl, h0⟩ := h0
  refine tc tbk 5 (.mk ?_)
  refine sA 4 z31 fun v7 => ?_
  refine sA 5 z3 fun v8 => ?_
  refine sA 6 z3 fun v9 => ?_
  refine sS ⟨31, 10, true, true, v7, [(GState.av a1)]⟩ sh31 ?_
  refine sS ⟨3, 1, true, true, v8, [[int 0]]⟩ sh3 ?_
  refine sS ⟨3, 1, true, true, v9, [[int 0]]⟩ sh3 ?_
  refine tr tbk 3 (.mk ?_)
  refine sA 7 z33 fun v10 => ?_
  refine tr tbk 8 (.mk ?_)
  refine sY (yv_buildSlice (ps := [(0, _), (1, _), (2, _), (3, _), (4, _)]) (rows := [[.fn (.func 70) [] [.pt 1 v3 0 0, .pt 2 v4 0 0, .pt 7 v10 0 0]], [.fn (.func 72) [] [.pt 1 v3 0 0, .pt 7 v10 0 0]], [.fn (.func 73) [] [.pt 1 v3 0 0, .pt 2 v4 0 0, .pt 4 v7 0 0, .pt 5 v8 0 0, .pt 6 v9 0 0, .pt 7 v10 0 0]], [.fn (.func 75) [] [.pt 4 v7 0 0, .pt 2 v4 0 0, .pt 5 v8 0 0, .pt 6 v9 0 0, .pt 7 v10 0 0]], [.fn (.func 77) [] [.pt 4 v7 0 0, .pt 2 v4 0 0, .pt 5 v8 0 0, .pt 7 v10 0 0]]]) rfl Tryz.underlying128 bz1 (.cons rfl (.cons rfl (.cons rfl (.cons rfl (.cons rfl .nil))))) (by kernel_rfl) rfl rfl rfl) ?_
  refine tr tbk 8 (.mk ?_)
  refine sY (yv_to (y := int 5) (yv_len_sl rfl Tryz.underlying128 rfl (.list _ _)) rfl) ?_
  refine tr tbk 2 (.mk ?_)
  refine jn h0 [2, 3, 4, 5, 6, 9] [1, 2, 3] (fun (a : GState × Int) (k : Unit) => []) (fun a k => [(4, ⟨31, 10, true, true, v7, [(GState.av a.1)]⟩), (7, ⟨33, 1, true, true, v10, [[int a.2]]⟩)]) ⟨fun j11 h1 => ?_, ?_⟩
  refine tc tbk 4 (.mk ?_)
  refine sY (yv_to (y := boo true) (yv_lss rfl rfl rfl) (congrArg boo (by decide))) ?_
  refine tr tbk 8 (.mk ?_)
  refine sY (yv_indexAddr (j := 0) rfl Tryz.underlying128 sh1 rfl rfl rfl (.list rfl)) ?_
  refine tr tbk 6 (.mk ?_)
  obtain ⟨j12, h2, h1⟩ := bind_e h1
  refine rse (Out := fun y H' => (∃ (a : Int) (k : Unit), a = j12 ∧ y = .tup [] ∧ H' = hk [(1, ⟨31, 10, true, true, v3, [(GState.av a1)]⟩), (2, ⟨37, 9, true, true, v4, [[int a2.Kind, int a2.E, int a2.Item, int a2.Loc, int a2.To, int a2.Qty, int a2.Amount, int a2.Ref, lst 1 fI a2.Refs]]⟩), (3, ⟨31, 10, true, true, v5, [[int 0, int 0, .sc (.slice none 0 0), .sc (.slice none 0 0), .sc (.slice none 0 0), .sc (.slice none 0 0), .sc (.slice none 0 0), .sc (.slice none 0 0), .sc (.slice none 0 0), int 0]]⟩), (4, ⟨31, 10, true, true, v7, [(GState.av a1)]⟩), (5, ⟨3, 1, true, true, v8, [[int 0]]⟩), (6, ⟨3, 1, true, true, v9, [[int 0]]⟩), (7, ⟨33, 1, true, true, v10, [[int a]]⟩)])) rfl rfl rfl (yl_call rfl rfl .nil cal70 ?_) ?_
  refine pcw (c := _) Tryz.func70 rfl rfl ?_; intro Q hret hnorm
  refine tc tbk 6 (.mk ?_)
  obtain ⟨x13, e13, h2⟩ := bind_e h2
  refine sC cal71 (d_stock_Ready_c e13) ?_
  refine sS ⟨33, 1, true, true, v10, [[int x13]]⟩ sh33 ?_
  refine tr tbk 1 (.mk ?_)
  obtain rfl := nxt_e h2
  refine g_nil (hnorm _ _ (hk [(1, ⟨31, 10, true, true, v3, [(GState.av a1)]⟩), (2, ⟨37, 9, true, true, v4, [[int a2.Kind, int a2.E, int a2.Item, int a2.Loc, int a2.To, int a2.Qty, int a2.Amount, int a2.Ref, lst 1 fI a2.Refs]]⟩), (3, ⟨31, 10, true, true, v5, [[int 0, int 0, .sc (.slice none 0 0), .sc (.slice none 0 0), .sc (.slice none 0 0), .sc (.slice none 0 0), .sc (.slice none 0 0), .sc (.slice none 0 0), .sc (.slice none 0 0), int 0]]⟩), (4, ⟨31, 10, true, true, v7, [(GState.av a1)]⟩), (5, ⟨3, 1, true, true, v8, [[int 0]]⟩), (6, ⟨3, 1, true, true, v9, [[int 0]]⟩), (7, ⟨33, 1, true, true, v10, [[int x13]]⟩)]) .nil (HK.le ⟨rfl, rfl, rfl, rfl, rfl, rfl, rfl, trivial⟩) ?_)
  exact ⟨x13, (), rfl, rfl, rfl⟩
  rintro y _ ⟨y0_1, _, rfl, hc, rfl⟩
  subst hc
  refine tr tbk 4 (.mk ?_)
  refine nb tbk h1 fun x14 h1 => ?_
  refine tr tbk 1 (.mk ?_)
  cases x14
  replace h1 := cf h1
  refine tc tbk 4 (.mk ?_)
  refine sY (yv_add (r := 1) rfl rfl rfl (by decide)) ?_
  refine tr tbk 5 (.mk ?_)
  refine sY (yv_to (y := boo true) (yv_lss rfl rfl rfl) (congrArg boo (by decide))) ?_
  refine tr tbk 8 (.mk ?_)
  refine sY (yv_indexAddr (j := 1) rfl Tryz.underlying128 sh1 rfl rfl rfl (.list rfl)) ?_
  refine tr tbk 6 (.mk ?_)
  obtain ⟨j15, h2, h1⟩ := bind_e h1
  refine rse (Out := fun y H' => (∃ (a : Int) (k : Unit), a = j15 ∧ y = .tup [] ∧ H' = hk [(1, ⟨31, 10, true, true, v3, [(GState.av a1)]⟩), (2, ⟨37, 9, true, true, v4, [[int a2.Kind, int a2.E, int a2.Item, int a2.Loc, int a2.To, int a2.Qty, int a2.Amount, int a2.Ref, lst 1 fI a2.Refs]]⟩), (3, ⟨31, 10, true, true, v5, [[int 0, int 0, .sc (.slice none 0 0), .sc (.slice none 0 0), .sc (.slice none 0 0), .sc (.slice none 0 0), .sc (.slice none 0 0), .sc (.slice none 0 0), .sc (.slice none 0 0), int 0]]⟩), (4, ⟨31, 10, true, true, v7, [(GState.av a1)]⟩), (5, ⟨3, 1, true, true, v8, [[int 0]]⟩), (6, ⟨3, 1, true, true, v9, [[int 0]]⟩), (7, ⟨33, 1, true, true, v10, [[int a]]⟩)])) rfl rfl rfl (yl_call rfl rfl .nil cal72 ?_) ?_
  refine pcw (c := _) Tryz.func72 rfl rfl ?_; intro Q hret hnorm
  refine tc tbk 4 (.mk ?_)
  refine sY (yv_len_sl rfl Tryz.underlying27 rfl (lst_len _)) ?_
  refine nb tbk h2 fun x16 h2 => ?_
  refine tr tbk 1 (.mk ?_)
  cases x16
  replace h2 := cf h2
  refine tc tbk 2 (.mk ?_)
  obtain rfl := nxt_e h2
  refine g_nil (hnorm _ _ (hk [(1, ⟨31, 10, true, true, v3, [(GState.av a1)]⟩), (2, ⟨37, 9, true, true, v4, [[int a2.Kind, int a2.E, int a2.Item, int a2.Loc, int a2.To, int a2.Qty, int a2.Amount, int a2.Ref, lst 1 fI a2.Refs]]⟩), (3, ⟨31, 10, true, true, v5, [[int 0, int 0, .sc (.slice none 0 0), .sc (.slice none 0 0), .sc (.slice none 0 0), .sc (.slice none 0 0), .sc (.slice none 0 0), .sc (.slice none 0 0), .sc (.slice none 0 0), int 0]]⟩), (4, ⟨31, 10, true, true, v7, [(GState.av a1)]⟩), (5, ⟨3, 1, true, true, v8, [[int 0]]⟩), (6, ⟨3, 1, true, true, v9, [[int 0]]⟩), (7, ⟨33, 1, true, true, v10, [[int y0_1]]⟩)]) .nil (HK.le ⟨rfl, rfl, rfl, rfl, rfl, rfl, rfl, trivial⟩) ?_)
  exact ⟨y0_1, (), rfl, rfl, rfl⟩
  replace h2 := ct h2
  refine tc tbk 2 (.mk ?_)
  refine sS ⟨33, 1, true, true, v10, [[int 6]]⟩ sh33 ?_
  refine tr tbk 1 (.mk ?_)
  obtain rfl := nxt_e h2
  refine g_nil (hnorm _ _ (hk [(1, ⟨31, 10, true, true, v3, [(GState.av a1)]⟩), (2, ⟨37, 9, true, true, v4, [[int a2.Kind, int a2.E, int a2.Item, int a2.Loc, int a2.To, int a2.Qty, int a2.Amount, int a2.Ref, lst 1 fI a2.Refs]]⟩), (3, ⟨31, 10, true, true, v5, [[int 0, int 0, .sc (.slice none 0 0), .sc (.slice none 0 0), .sc (.slice none 0 0), .sc (.slice none 0 0), .sc (.slice none 0 0), .sc (.slice none 0 0), .sc (.slice none 0 0), int 0]]⟩), (4, ⟨31, 10, true, true, v7, [(GState.av a1)]⟩), (5, ⟨3, 1, true, true, v8, [[int 0]]⟩), (6, ⟨3, 1, true, true, v9, [[int 0]]⟩), (7, ⟨33, 1, true, true, v10, [[int 6]]⟩)]) .nil (HK.le ⟨rfl, rfl, rfl, rfl, rfl, rfl, rfl, trivial⟩) ?_)
  exact ⟨6, (), rfl, rfl, rfl⟩
  rintro y _ ⟨y1_1, _, rfl, hc, rfl⟩
  subst hc
  refine tr tbk 4 (.mk ?_)
  refine nb tbk h1 fun x17 h1 => ?_
  refine tr tbk 1 (.mk ?_)
  cases x17
  replace h1 := cf h1
  refine tc tbk 4 (.mk ?_)
  refine sY (yv_add (r := 2) rfl rfl rfl (by decide)) ?_
  refine tr tbk 5 (.mk ?_)
  refine sY (yv_to (y := boo true) (yv_lss rfl rfl rfl) (congrArg boo (by decide))) ?_
  refine tr tbk 8 (.mk ?_)
  refine sY (yv_indexAddr (j := 2) rfl Tryz.underlying128 sh1 rfl rfl rfl (.list rfl)) ?_
  refine tr tbk 6 (.mk ?_)
  obtain ⟨j18, h2, h1⟩ := bind_e h1
  refine rse (Out := fun y H' => (∃ (a : GState × Int × Int × Int) (k : Unit), a = j18 ∧ y = .tup [] ∧ H' = hk [(1, ⟨31, 10, true, true, v3, [(GState.av a1)]⟩), (2, ⟨37, 9, true, true, v4, [[int a2.Kind, int a2.E, int a2.Item, int a2.Loc, int a2.To, int a2.Qty, int a2.Amount, int a2.Ref, lst 1 fI a2.Refs]]⟩), (3, ⟨31, 10, true, true, v5, [[int 0, int 0, .sc (.slice none 0 0), .sc (.slice none 0 0), .sc (.slice none 0 0), .sc (.slice none 0 0), .sc (.slice none 0 0), .sc (.slice none 0 0), .sc (.slice none 0 0), int 0]]⟩), (4, ⟨31, 10, true, true, v7, [(GState.av a.1)]⟩), (5, ⟨3, 1, true, true, v8, [[int a.2.1]]⟩), (6, ⟨3, 1, true, true, v9, [[int a.2.2.1]]⟩), (7, ⟨33, 1, true, true, v10, [[int a.2.2.2]]⟩)])) rfl rfl rfl (yl_call rfl rfl .nil cal73 ?_) ?_
  refine pcw (c := _) Tryz.func73 rfl rfl ?_; intro Q hret hnorm
  refine tc tbk 13 (.mk ?_)
  obtain ⟨x19, e19, h2⟩ := bind_e h2
  refine sC cal74 (d_stock_Bring_c e19) ?_
  refine tr tbk 5 (.mk ?_)
  refine sS ⟨31, 10, true, true, v7, [(GState.av x19.1)]⟩ sh31 ?_
  refine sS ⟨3, 1, true, true, v8, [[int x19.2.1]]⟩ sh3 ?_
  refine sS ⟨3, 1, true, true, v9, [[int x19.2.2.1]]⟩ sh3 ?_
  refine sS ⟨33, 1, true, true, v10, [[int x19.2.2.2]]⟩ sh33 ?_
  refine tr tbk 1 (.mk ?_)
  obtain rfl := nxt_e h2
  refine g_nil (hnorm _ _ (hk [(1, ⟨31, 10, true, true, v3, [(GState.av a1)]⟩), (2, ⟨37, 9, true, true, v4, [[int a2.Kind, int a2.E, int a2.Item, int a2.Loc, int a2.To, int a2.Qty, int a2.Amount, int a2.Ref, lst 1 fI a2.Refs]]⟩), (3, ⟨31, 10, true, true, v5, [[int 0, int 0, .sc (.slice none 0 0), .sc (.slice none 0 0), .sc (.slice none 0 0), .sc (.slice none 0 0), .sc (.slice none 0 0), .sc (.slice none 0 0), .sc (.slice none 0 0), int 0]]⟩), (4, ⟨31, 10, true, true, v7, [(GState.av x19.1)]⟩), (5, ⟨3, 1, true, true, v8, [[int x19.2.1]]⟩), (6, ⟨3, 1, true, true, v9, [[int x19.2.2.1]]⟩), (7, ⟨33, 1, true, true, v10, [[int x19.2.2.2]]⟩)]) .nil (HK.le ⟨rfl, rfl, rfl, rfl, rfl, rfl, rfl, trivial⟩) ?_)
  exact ⟨(x19.1, x19.2.1, x19.2.2.1, x19.2.2.2), (), rfl, rfl, rfl⟩
  rintro y _ ⟨⟨y2_1, y2_2, y2_3, y2_4⟩, _, rfl, hc, rfl⟩
  replace h1 := p2_e h1
  replace h1 := p2_e h1
  replace h1 := p2_e h1
  subst hc
  refine tr tbk 4 (.mk ?_)
  refine nb tbk h1 fun x20 h1 => ?_
  refine tr tbk 1 (.mk ?_)
  cases x20
  replace h1 := cf h1
  refine tc tbk 4 (.mk ?_)
  refine sY (yv_add (r := 3) rfl rfl rfl (by decide)) ?_
  refine tr tbk 5 (.mk ?_)
  refine sY (yv_to (y := boo true) (yv_lss rfl rfl rfl) (congrArg boo (by decide))) ?_
  refine tr tbk 8 (.mk ?_)
  refine sY (yv_indexAddr (j := 3) rfl Tryz.underlying128 sh1 rfl rfl rfl (.list rfl)) ?_
  refine tr tbk 6 (.mk ?_)
  obtain ⟨j21, h2, h1⟩ := bind_e h1
  refine rse (Out := fun y H' => (∃ (a : GState × Int) (k : Unit), a = j21 ∧ y = .tup [] ∧ H' = hk [(1, ⟨31, 10, true, true, v3, [(GState.av a1)]⟩), (2, ⟨37, 9, true, true, v4, [[int a2.Kind, int a2.E, int a2.Item, int a2.Loc, int a2.To, int a2.Qty, int a2.Amount, int a2.Ref, lst 1 fI a2.Refs]]⟩), (3, ⟨31, 10, true, true, v5, [[int 0, int 0, .sc (.slice none 0 0), .sc (.slice none 0 0), .sc (.slice none 0 0), .sc (.slice none 0 0), .sc (.slice none 0 0), .sc (.slice none 0 0), .sc (.slice none 0 0), int 0]]⟩), (4, ⟨31, 10, true, true, v7, [(GState.av a.1)]⟩), (5, ⟨3, 1, true, true, v8, [[int y2_2]]⟩), (6, ⟨3, 1, true, true, v9, [[int y2_3]]⟩), (7, ⟨33, 1, true, true, v10, [[int a.2]]⟩)])) rfl rfl rfl (yl_call rfl rfl .nil cal75 ?_) ?_
  refine pcw (c := _) Tryz.func75 rfl rfl ?_; intro Q hret hnorm
  refine tc tbk 10 (.mk ?_)
  refine ni tbk h2 fun x22 h2 => ?_
  refine tr tbk 1 (.mk ?_)
  refine sY (yv_to (y := lst 2 GLine.av ([(⟨0, y2_2⟩ : GLine), (⟨6, y2_3⟩ : GLine), (⟨1, x22⟩ : GLine)] : List GLine)) (yv_buildSlice (ps := [(0, _), (1, _), (2, _)]) (rows := [[int 0, int y2_2], [int 6, int y2_3], [int 1, int x22]]) rfl Tryz.underlying126 bz125 (.cons rfl (.cons rfl (.cons rfl .nil))) (by kernel_rfl) rfl rfl rfl) rfl) ?_
  obtain ⟨x23, e23, h2⟩ := bind_e h2
  refine sC cal76 (d_stock_Post_c e23) ?_
  refine tr tbk 3 (.mk ?_)
  refine sS ⟨31, 10, true, true, v7, [(GState.av x23.1)]⟩ sh31 ?_
  refine sS ⟨33, 1, true, true, v10, [[int x23.2]]⟩ sh33 ?_
  refine tr tbk 1 (.mk ?_)
  obtain rfl := nxt_e h2
  refine g_nil (hnorm _ _ (hk [(1, ⟨31, 10, true, true, v3, [(GState.av a1)]⟩), (2, ⟨37, 9, true, true, v4, [[int a2.Kind, int a2.E, int a2.Item, int a2.Loc, int a2.To, int a2.Qty, int a2.Amount, int a2.Ref, lst 1 fI a2.Refs]]⟩), (3, ⟨31, 10, true, true, v5, [[int 0, int 0, .sc (.slice none 0 0), .sc (.slice none 0 0), .sc (.slice none 0 0), .sc (.slice none 0 0), .sc (.slice none 0 0), .sc (.slice none 0 0), .sc (.slice none 0 0), int 0]]⟩), (4, ⟨31, 10, true, true, v7, [(GState.av x23.1)]⟩), (5, ⟨3, 1, true, true, v8, [[int y2_2]]⟩), (6, ⟨3, 1, true, true, v9, [[int y2_3]]⟩), (7, ⟨33, 1, true, true, v10, [[int x23.2]]⟩)]) .nil (HK.le ⟨rfl, rfl, rfl, rfl, rfl, rfl, rfl, trivial⟩) ?_)
  exact ⟨(x23.1, x23.2), (), rfl, rfl, rfl⟩
  rintro y _ ⟨⟨y3_1, y3_2⟩, _, rfl, hc, rfl⟩
  replace h1 := p2_e h1
  subst hc
  refine tr tbk 4 (.mk ?_)
  refine nb tbk h1 fun x24 h1 => ?_
  refine tr tbk 1 (.mk ?_)
  cases x24
  replace h1 := cf h1
  refine tc tbk 4 (.mk ?_)
  refine sY (yv_add (r := 4) rfl rfl rfl (by decide)) ?_
  refine tr tbk 5 (.mk ?_)
  refine sY (yv_to (y := boo true) (yv_lss rfl rfl rfl) (congrArg boo (by decide))) ?_
  refine tr tbk 8 (.mk ?_)
  refine sY (yv_indexAddr (j := 4) rfl Tryz.underlying128 sh1 rfl rfl rfl (.list rfl)) ?_
  refine tr tbk 6 (.mk ?_)
  obtain ⟨j25, h2, h1⟩ := bind_e h1
  refine rse (Out := fun y H' => (∃ (a : GState × Int) (k : Unit), a = j25 ∧ y = .tup [] ∧ H' = hk [(1, ⟨31, 10, true, true, v3, [(GState.av a1)]⟩), (2, ⟨37, 9, true, true, v4, [[int a2.Kind, int a2.E, int a2.Item, int a2.Loc, int a2.To, int a2.Qty, int a2.Amount, int a2.Ref, lst 1 fI a2.Refs]]⟩), (3, ⟨31, 10, true, true, v5, [[int 0, int 0, .sc (.slice none 0 0), .sc (.slice none 0 0), .sc (.slice none 0 0), .sc (.slice none 0 0), .sc (.slice none 0 0), .sc (.slice none 0 0), .sc (.slice none 0 0), int 0]]⟩), (4, ⟨31, 10, true, true, v7, [(GState.av a.1)]⟩), (5, ⟨3, 1, true, true, v8, [[int y2_2]]⟩), (6, ⟨3, 1, true, true, v9, [[int y2_3]]⟩), (7, ⟨33, 1, true, true, v10, [[int a.2]]⟩)])) rfl rfl rfl (yl_call rfl rfl .nil cal77 ?_) ?_
  refine pcw (c := _) Tryz.func77 rfl rfl ?_; intro Q hret hnorm
  refine tc tbk 7 (.mk ?_)
  refine sY (yv_build (cs := [int 0, int y2_2, int 0, int 0, int 0, int 0, int 0, int 0, int 0, int 0, int 0]) (ps := [(1, _)]) rfl pl55 z55 rfl (.cons rfl .nil) (by kernel_rfl)) ?_
  obtain ⟨x26, e26, h2⟩ := bind_e h2
  refine sC cal78 (d_stock_Turn_c e26) ?_
  refine tr tbk 3 (.mk ?_)
  refine sS ⟨31, 10, true, true, v7, [(GState.av x26.1)]⟩ sh31 ?_
  refine sS ⟨33, 1, true, true, v10, [[int x26.2]]⟩ sh33 ?_
  refine tr tbk 1 (.mk ?_)
  obtain rfl := nxt_e h2
  refine g_nil (hnorm _ _ (hk [(1, ⟨31, 10, true, true, v3, [(GState.av a1)]⟩), (2, ⟨37, 9, true, true, v4, [[int a2.Kind, int a2.E, int a2.Item, int a2.Loc, int a2.To, int a2.Qty, int a2.Amount, int a2.Ref, lst 1 fI a2.Refs]]⟩), (3, ⟨31, 10, true, true, v5, [[int 0, int 0, .sc (.slice none 0 0), .sc (.slice none 0 0), .sc (.slice none 0 0), .sc (.slice none 0 0), .sc (.slice none 0 0), .sc (.slice none 0 0), .sc (.slice none 0 0), int 0]]⟩), (4, ⟨31, 10, true, true, v7, [(GState.av x26.1)]⟩), (5, ⟨3, 1, true, true, v8, [[int y2_2]]⟩), (6, ⟨3, 1, true, true, v9, [[int y2_3]]⟩), (7, ⟨33, 1, true, true, v10, [[int x26.2]]⟩)]) .nil (HK.le ⟨rfl, rfl, rfl, rfl, rfl, rfl, rfl, trivial⟩) ?_)
  exact ⟨(x26.1, x26.2), (), rfl, rfl, rfl⟩
  rintro y _ ⟨⟨y4_1, y4_2⟩, _, rfl, hc, rfl⟩
  replace h1 := p2_e h1
  subst hc
  refine tr tbk 4 (.mk ?_)
  refine nb tbk h1 fun x27 h1 => ?_
  refine tr tbk 1 (.mk ?_)
  cases x27
  replace h1 := cf h1
  refine tc tbk 4 (.mk ?_)
  refine sY (yv_add (r := 5) rfl rfl rfl (by decide)) ?_
  refine tr tbk 5 (.mk ?_)
  refine sY (yv_to (y := boo false) (yv_lss rfl rfl rfl) (congrArg boo (by decide))) ?_
  refine tr tbk 4 (.mk ?_)
  exact lf h1 () leA
  replace h1 := ct h1
  refine tc tbk 2 (.mk ?_)
  exact lf h1 () leA
  replace h1 := ct h1
  refine tc tbk 2 (.mk ?_)
  exact lf h1 () leA
  replace h1 := ct h1
  refine tc tbk 2 (.mk ?_)
  exact lf h1 () leA
  replace h1 := ct h1
  refine tc tbk 2 (.mk ?_)
  exact lf h1 () leA
  replace h1 := ct h1
  refine tc tbk 2 (.mk ?_)
  exact lf h1 () leA
  rintro ⟨y5_1, y5_2⟩ _ h0
  replace h0 := p2_e h0
  refine tc tbk 4 (.mk ?_)
  refine nb tbk h0 fun x28 h0 => ?_
  refine tr tbk 1 (.mk ?_)
  cases x28
  replace h0 := cf h0
  refine tc tbk 18 (.mk ?_)
  refine sY (yv_build (cs := [int a2.E, int a2.Item, int a2.Loc, int a2.Qty, int a2.Amount, int a2.Qty, int a2.Amount, int 0]) (ps := [(0, _), (1, _), (2, _), (3, _), (4, _), (5, _), (6, _)]) rfl pl130 z130 rfl (.cons rfl (.cons rfl (.cons rfl (.cons rfl (.cons rfl (.cons rfl (.cons rfl .nil))))))) (by kernel_rfl)) ?_
  refine sA 8 z130 fun v29 => ?_
  refine sS ⟨130, 8, true, true, v29, [[int a2.E, int a2.Item, int a2.Loc, int a2.Qty, int a2.Amount, int a2.Qty, int a2.Amount, int 0]]⟩ sh130 ?_
  refine tr tbk 2 (.mk ?_)
  refine c_drawE [0, 1, 3, 0, 8, 31, 63, 127] (rl [(0, [4]), (1, [4]), (3, [8]), (6, [4])] []) (rl [(2, [8]), (5, []), (7, [])] [4, 8]) (rl [(2, false), (5, false), (7, false)] true) [0, 1, 3, 4, 2, 5, 6, 7] mixed (by kernel_rfl) ?_; intro K hK
  refine eF fo31_2 ?_
  refine eL sh27 ?_
  refine eL sh130 ?_
  refine eP (fun H hH => yv_to (y := lst 8 GReceipt.av ([(⟨a2.E, a2.Item, a2.Loc, a2.Qty, a2.Amount, a2.Qty, a2.Amount, 0⟩ : GReceipt)] : List GReceipt)) (yv_buildSlice (ps := [(0, _)]) (rows := [[int a2.E, int a2.Item, int a2.Loc, int a2.Qty, int a2.Amount, int a2.Qty, int a2.Amount, int 0]]) rfl Tryz.underlying27 bz130 (.cons rfl .nil) (by kernel_rfl) rfl rfl rfl) rfl) ?_
  obtain ⟨p30, h0⟩ := asrt_e h0
  refine de_eff rfl rfl rfl rfl (yl_call rfl rfl (.cons rfl .nil) cal79 (pc_cv (clone79_c (id := 9) (l := y5_1.Receipts) rfl p30) (.cons (.refl _) .nil))) (by rintro _ _ ⟨v31, rfl, rfl⟩; exact ⟨rfl, trivial⟩) ?_; rintro _ _ ⟨v31, rfl, rfl⟩
  obtain ⟨x32, e32, h0⟩ := bnd_e h0
  obtain ⟨p33, h0⟩ := asrt_e h0
  refine de_eff rfl rfl rfl rfl (yl_appT (g := GReceipt.av) (l := y5_1.Receipts) (m := ([(⟨a2.E, a2.Item, a2.Loc, a2.Qty, a2.Amount, a2.Qty, a2.Amount, 0⟩ : GReceipt)] : List GReceipt)) .any rfl Tryz.underlying27 bz130 by130 rfl rfl rfl rfl rfl rfl rfl rfl rfl rfl (Eq.symm rfl) (.refl _) (fun _ => rfl) e32 p33) (by rintro _ _ ⟨v34, -, rfl, rfl⟩; exact trivial) ?_; rintro _ _ ⟨v34, -, rfl, rfl⟩
  refine eF fo31_2 ?_
  refine de_eff0 rfl rfl rfl rfl (Yield.weak (yl_ob (ob' := (⟨31, 10, true, true, v7, [[int y5_1.Master.Entities, int y5_1.Master.Periods, lst 1 fI y5_1.Master.Weights, lst 1 (fL 1 fI) y5_1.Master.Methods, lst 1 (fL 1 fI) y5_1.Master.Costs, lst 8 GEnt.av y5_1.Ents, .sl 9 v34 0 x32.length, lst 9 GSale.av y5_1.Sales, lst 6 GTransit.av y5_1.Transits, int y5_1.Done]]⟩ : AObj)) (yl_store rfl sh27 rfl rfl rfl rfl rfl rfl rfl rfl rfl) rfl) (fun _ h => h) (fun _ _ => trivial)) (by rintro _ _ ⟨rfl, rfl⟩; exact trivial) ?_; rintro _ _ ⟨rfl, rfl⟩
  refine de_nil (hK _ ?_)
  refine tc tbk 3 (.mk ?_)
  refine sS ⟨31, 10, true, true, v5, [[int y5_1.Master.Entities, int y5_1.Master.Periods, lst 1 fI y5_1.Master.Weights, lst 1 (fL 1 fI) y5_1.Master.Methods, lst 1 (fL 1 fI) y5_1.Master.Costs, lst 8 GEnt.av y5_1.Ents, .sl 9 v34 0 x32.length, lst 9 GSale.av y5_1.Sales, lst 6 GTransit.av y5_1.Transits, int y5_1.Done]]⟩ sh31 ?_
  refine tr tbk 2 (.mk ?_)
  obtain rfl := nxt_e h0
  refine wR hret (rC sh31 (rT .nil)) ?_
  exact CvL.tup (.cons (CvL.agg (.cons (.refl _) (.cons (.refl _) (.cons (.refl _) (.cons (.refl _) (.cons (.refl _) (.cons (.refl _) (.cons (cv_lst rfl rfl rfl rfl rfl (Eq.symm rfl)) (.cons (.refl _) (.cons (.refl _) (.cons (.refl _) .nil))))))))))) (.cons (.refl _) .nil))
  replace h0 := ct h0
  refine tc tbk 2 (.mk ?_)
  refine c_drawE [0, 0, 1, 7] (rl [(0, [1]), (1, [7])] []) (rl [(2, [7])] [1, 7]) (rl [(2, false)] true) [0, 1, 2, 3] mixed (by kernel_rfl) ?_; intro K hK
  refine eL sh31 ?_
  refine eL sh33 ?_
  refine de_eff0 rfl rfl rfl rfl (Yield.weak (yl_ob (ob' := (⟨31, 10, true, true, v5, [(GState.av a1)]⟩ : AObj)) (yl_store rfl sh31 rfl rfl rfl rfl rfl rfl rfl rfl rfl) rfl) (fun _ h => h) (fun _ _ => trivial)) (by rintro _ _ ⟨rfl, rfl⟩; exact ⟨rfl, trivial⟩) ?_; rintro _ _ ⟨rfl, rfl⟩
  refine eA ?_
  refine de_nil (hK _ ?_)
  obtain rfl := nxt_e h0
  refine wR hret (rC sh31 (rT .nil)) ?_
  exact .refl _
def d_apply_Do (n : Nat) (a1 : GState) (a2 : GOp) : Option (GState × Int) :=
(show Option ((Unit) ⊕ (Unit) ⊕ (Unit) ⊕ (Unit)) from
bnd (decide (a2.Kind = 1)) fun x7 =>
cond x7 (some (.inr (.inr (.inr ())))) (bnd (decide (a2.Kind = 4)) fun x8 =>
(show Option (Bool) from
cond x8 (some (true : Bool)) (bnd (decide (a2.Kind = 5)) fun x10 =>
some (x10 : Bool))).bind <| fun y0_1 =>
cond y0_1 (some (.inr (.inr (.inl ())))) (bnd (decide (a2.Kind = 6)) fun x11 =>
(show Option (Bool) from
cond x11 (some (true : Bool)) (bnd (decide (a2.Kind = 7)) fun x13 =>
cond x13 (some (true : Bool)) (bnd (decide (a2.Kind = 8)) fun x14 =>
cond x14 (some (true : Bool)) (bnd (decide (a2.Kind = 9)) fun x15 =>
some (x15 : Bool))))).bind <| fun y1_1 =>
asrt (y1_1 = false) <|
bnd (decide (a2.Kind = 2)) fun x16 =>
(show Option (Bool) from
cond x16 (some (true : Bool)) (bnd (decide (a2.Kind = 3)) fun x18 =>
some (x18 : Bool))).bind <| fun y2_1 =>
asrt (y2_1 = false) <|
bnd (decide (a2.Kind = 11)) fun x19 =>
asrt (x19 = false) <|
bnd (decide (a2.Kind = 12)) fun x20 =>
(show Option (Bool) from
cond x20 (some (true : Bool)) (bnd (decide (a2.Kind = 13)) fun x22 =>
some (x22 : Bool))).bind <| fun y3_1 =>
cond y3_1 (some (.inr (.inl ()))) (bnd (decide (a2.Kind = 10)) fun x23 =>
asrt (x23 = false) <|
some (.inl ()))))).bind <| selr (fun _ =>
(show Option (Unit) from
(d_ops_Check a2).bind fun x25 =>
bnd (!x25) fun x26 =>
cond x26 (some ()) (some ())).bind <| fun _ =>
some ((a1 : GState), (1 : Int))) <| selr (fun _ =>
(show Option (Bool) from
(d_ops_Check a2).bind fun x28 =>
bnd (!x28) fun x29 =>
cond x29 (some (true : Bool)) (some (false : Bool))).bind <| fun y8_1 =>
cond y8_1 (some ((a1 : GState), (1 : Int))) ((show Option ((GState × Int)) from
(d_ship_Do n a1 a2).bind fun x34 =>
some ((x34.1 : GState), (x34.2 : Int))).bind <| p2 fun (y9_1 : GState) (y9_2 : Int) =>
bnd (decide (y9_2 ≠ 0)) fun x36 =>
cond x36 (some ((a1 : GState), (y9_2 : Int))) (bnd (w64 (y9_1.Done + 1)) fun x37 =>
bnd (if 288230376151711744 < x37 then 288230376151711744 else x37) fun x38 =>
some (((⟨y9_1.Master, y9_1.Ents, y9_1.Receipts, y9_1.Sales, y9_1.Transits, x38⟩ : GState) : GState), (0 : Int))))) <| selr (fun _ =>
(show Option (Bool) from
(d_ops_Check a2).bind fun x40 =>
bnd (!x40) fun x41 =>
cond x41 (some (true : Bool)) (some (false : Bool))).bind <| fun y8_1 =>
cond y8_1 (some ((a1 : GState), (1 : Int))) ((show Option ((GState × Int)) from
(d_sell_Do n a1 a2).bind fun x46 =>
some ((x46.1 : GState), (x46.2 : Int))).bind <| p2 fun (y10_1 : GState) (y10_2 : Int) =>
bnd (decide (y10_2 ≠ 0)) fun x48 =>
cond x48 (some ((a1 : GState), (y10_2 : Int))) (bnd (w64 (y10_1.Done + 1)) fun x49 =>
bnd (if 288230376151711744 < x49 then 288230376151711744 else x49) fun x50 =>
some (((⟨y10_1.Master, y10_1.Ents, y10_1.Receipts, y10_1.Sales, y10_1.Transits, x50⟩ : GState) : GState), (0 : Int))))) <| fun _ =>
(show Option (Bool) from
(d_ops_Check a2).bind fun x52 =>
bnd (!x52) fun x53 =>
cond x53 (some (true : Bool)) (some (false : Bool))).bind <| fun y8_1 =>
cond y8_1 (some ((a1 : GState), (1 : Int))) ((show Option ((GState × Int)) from
(d_receive_Do n a1 a2).bind fun x58 =>
some ((x58.1 : GState), (x58.2 : Int))).bind <| p2 fun (y11_1 : GState) (y11_2 : Int) =>
bnd (decide (y11_2 ≠ 0)) fun x60 =>
cond x60 (some ((a1 : GState), (y11_2 : Int))) (bnd (w64 (y11_1.Done + 1)) fun x61 =>
bnd (if 288230376151711744 < x61 then 288230376151711744 else x61) fun x62 =>
some (((⟨y11_1.Master, y11_1.Ents, y11_1.Receipts, y11_1.Sales, y11_1.Transits, x62⟩ : GState) : GState), (0 : Int))))
theorem d_apply_Do_c {n : Nat} {a1 : GState} {a2 : GOp} {r : GState × Int} (h0 : d_apply_Do n a1 a2 = some r) : PP Tryz.prog 8 [.agg (GState.av a1), .agg (GOp.av a2)] (fun y => y = .tup [.agg (GState.av r.1), int r.2]) := by
  unfold d_apply_Do at h0
  refine pp_of_pc (R0 := fun y H => Cv (frzH H) y (.tup [.agg (GState.av r.1), int r.2])) ?_ (fun y H hc => ⟨_, rfl, .tup (pvl2 ((fun (a : GState) => PV.agg (GState.pvc a)) (r.1)) (pvI (r.2))), hc⟩)
  refine pcw (c := _) Tryz.func8 rfl rfl ?_; intro Q hret hnorm
  refine tc tbk 2 (.mk ?_)
  refine sB 1 fun v3 => ?_
  refine sB 2 fun v4 => ?_
  refine sA 3 z31 fun v5 => ?_
  refine tr tbk 6 (.mk ?_)
  obtain ⟨j6, h1, h0⟩ := bind_e h0
  refine rse (Out := fun y H' => (∃ (a : Unit) (k : Unit), (.inl a) = j6 ∧ y = .sc .nilIface ∧ H' = hk [(1, ⟨31, 10, true, true, v3, [(GState.av a1)]⟩), (2, ⟨37, 9, true, true, v4, [[int a2.Kind, int a2.E, int a2.Item, int a2.Loc, int a2.To, int a2.Qty, int a2.Amount, int a2.Ref, lst 1 fI a2.Refs]]⟩), (3, ⟨31, 10, true, true, v5, [[int 0, int 0, .sc (.slice none 0 0), .sc (.slice none 0 0), .sc (.slice none 0 0), .sc (.slice none 0 0), .sc (.slice none 0 0), .sc (.slice none 0 0), .sc (.slice none 0 0), int 0]]⟩)]) ∨ (∃ (a : Unit) (k : Unit), (.inr (.inl a)) = j6 ∧ y = .ifc 82 (.fn (.func 41) [] []) ∧ H' = hk [(1, ⟨31, 10, true, true, v3, [(GState.av a1)]⟩), (2, ⟨37, 9, true, true, v4, [[int a2.Kind, int a2.E, int a2.Item, int a2.Loc, int a2.To, int a2.Qty, int a2.Amount, int a2.Ref, lst 1 fI a2.Refs]]⟩), (3, ⟨31, 10, true, true, v5, [[int 0, int 0, .sc (.slice none 0 0), .sc (.slice none 0 0), .sc (.slice none 0 0), .sc (.slice none 0 0), .sc (.slice none 0 0), .sc (.slice none 0 0), .sc (.slice none 0 0), int 0]]⟩)]) ∨ (∃ (a : Unit) (k : Unit), (.inr (.inr (.inl a))) = j6 ∧ y = .ifc 82 (.fn (.func 37) [] []) ∧ H' = hk [(1, ⟨31, 10, true, true, v3, [(GState.av a1)]⟩), (2, ⟨37, 9, true, true, v4, [[int a2.Kind, int a2.E, int a2.Item, int a2.Loc, int a2.To, int a2.Qty, int a2.Amount, int a2.Ref, lst 1 fI a2.Refs]]⟩), (3, ⟨31, 10, true, true, v5, [[int 0, int 0, .sc (.slice none 0 0), .sc (.slice none 0 0), .sc (.slice none 0 0), .sc (.slice none 0 0), .sc (.slice none 0 0), .sc (.slice none 0 0), .sc (.slice none 0 0), int 0]]⟩)]) ∨ (∃ (a : Unit) (k : Unit), (.inr (.inr (.inr a))) = j6 ∧ y = .ifc 82 (.fn (.func 36) [] []) ∧ H' = hk [(1, ⟨31, 10, true, true, v3, [(GState.av a1)]⟩), (2, ⟨37, 9, true, true, v4, [[int a2.Kind, int a2.E, int a2.Item, int a2.Loc, int a2.To, int a2.Qty, int a2.Amount, int a2.Ref, lst 1 fI a2.Refs]]⟩), (3, ⟨31, 10, true, true, v5, [[int 0, int 0, .sc (.slice none 0 0), .sc (.slice none 0 0), .sc (.slice none 0 0), .sc (.slice none 0 0), .sc (.slice none 0 0), .sc (.slice none 0 0), .sc (.slice none 0 0), int 0]]⟩)])) rfl rfl rfl (yl_call rfl rfl (.cons rfl .nil) cal18 ?_) ?_
  refine pcw (c := _) Tryz.func18 rfl rfl ?_; intro Q hret hnorm
  refine tc tbk 12 (.mk ?_)
  refine nb tbk h1 fun x7 h1 => ?_
  refine tr tbk 2 (.mk ?_)
  cases x7
  replace h1 := cf h1
  refine tc tbk 4 (.mk ?_)
  refine nb tbk h1 fun x8 h1 => ?_
  refine tr tbk 2 (.mk ?_)
  refine jn h1 [2, 3] [1, 2, 3] (fun (a : Bool) (k : Unit) => [(7, boo a)]) (fun a k => []) ⟨fun j9 h2 => ?_, ?_⟩
  cases x8
  replace h2 := cf h2
  refine tc tbk 2 (.mk ?_)
  refine nb tbk h2 fun x10 h2 => ?_
  refine tr tbk 2 (.mk ?_)
  exact lf h2 () leA
  replace h2 := ct h2
  refine tc tbk 2 (.mk ?_)
  exact lf h2 () leA
  rintro y0_1 _ h1
  cases y0_1
  replace h1 := cf h1
  refine tc tbk 4 (.mk ?_)
  refine nb tbk h1 fun x11 h1 => ?_
  refine tr tbk 2 (.mk ?_)
  refine jn h1 [2, 3] [1, 2, 3] (fun (a : Bool) (k : Unit) => [(11, boo a)]) (fun a k => []) ⟨fun j12 h2 => ?_, ?_⟩
  cases x11
  replace h2 := cf h2
  refine tc tbk 3 (.mk ?_)
  refine nb tbk h2 fun x13 h2 => ?_
  refine tr tbk 2 (.mk ?_)
  cases x13
  replace h2 := cf h2
  refine tc tbk 3 (.mk ?_)
  refine nb tbk h2 fun x14 h2 => ?_
  refine tr tbk 2 (.mk ?_)
  cases x14
  replace h2 := cf h2
  refine tc tbk 2 (.mk ?_)
  refine nb tbk h2 fun x15 h2 => ?_
  refine tr tbk 2 (.mk ?_)
  exact lf h2 () leA
  replace h2 := ct h2
  refine tc tbk 2 (.mk ?_)
  exact lf h2 () leA
  replace h2 := ct h2
  refine tc tbk 2 (.mk ?_)
  exact lf h2 () leA
  replace h2 := ct h2
  refine tc tbk 2 (.mk ?_)
  exact lf h2 () leA
  rintro y1_1 _ h1
  replace h1 := asrt_e h1
  obtain ⟨rfl, h1⟩ := h1
  refine tc tbk 4 (.mk ?_)
  refine nb tbk h1 fun x16 h1 => ?_
  refine tr tbk 2 (.mk ?_)
  refine jn h1 [2, 3] [1, 2, 3] (fun (a : Bool) (k : Unit) => [(17, boo a)]) (fun a k => []) ⟨fun j17 h2 => ?_, ?_⟩
  cases x16
  replace h2 := cf h2
  refine tc tbk 2 (.mk ?_)
  refine nb tbk h2 fun x18 h2 => ?_
  refine tr tbk 2 (.mk ?_)
  exact lf h2 () leA
  replace h2 := ct h2
  refine tc tbk 2 (.mk ?_)
  exact lf h2 () leA
  rintro y2_1 _ h1
  replace h1 := asrt_e h1
  obtain ⟨rfl, h1⟩ := h1
  refine tc tbk 3 (.mk ?_)
  refine nb tbk h1 fun x19 h1 => ?_
  refine tr tbk 2 (.mk ?_)
  replace h1 := asrt_e h1
  obtain ⟨rfl, h1⟩ := h1
  refine tc tbk 4 (.mk ?_)
  refine nb tbk h1 fun x20 h1 => ?_
  refine tr tbk 2 (.mk ?_)
  refine jn h1 [2, 3] [1, 2, 3] (fun (a : Bool) (k : Unit) => [(24, boo a)]) (fun a k => []) ⟨fun j21 h2 => ?_, ?_⟩
  cases x20
  replace h2 := cf h2
  refine tc tbk 2 (.mk ?_)
  refine nb tbk h2 fun x22 h2 => ?_
  refine tr tbk 2 (.mk ?_)
  exact lf h2 () leA
  replace h2 := ct h2
  refine tc tbk 2 (.mk ?_)
  exact lf h2 () leA
  rintro y3_1 _ h1
  cases y3_1
  replace h1 := cf h1
  refine tc tbk 3 (.mk ?_)
  refine nb tbk h1 fun x23 h1 => ?_
  refine tr tbk 2 (.mk ?_)
  replace h1 := asrt_e h1
  obtain ⟨rfl, h1⟩ := h1
  refine tc tbk 7 (.mk ?_)
  obtain rfl := nxt_e h1
  refine w_ret (hret _ _ (hk [(1, ⟨31, 10, true, true, v3, [(GState.av a1)]⟩), (2, ⟨37, 9, true, true, v4, [[int a2.Kind, int a2.E, int a2.Item, int a2.Loc, int a2.To, int a2.Qty, int a2.Amount, int a2.Ref, lst 1 fI a2.Refs]]⟩), (3, ⟨31, 10, true, true, v5, [[int 0, int 0, .sc (.slice none 0 0), .sc (.slice none 0 0), .sc (.slice none 0 0), .sc (.slice none 0 0), .sc (.slice none 0 0), .sc (.slice none 0 0), .sc (.slice none 0 0), int 0]]⟩)]) (.tmp rfl .nil) (HK.le ⟨rfl, rfl, rfl, trivial⟩) ?_)
  exact (.inl ⟨(), (), rfl, rfl, rfl⟩)
  replace h1 := ct h1
  refine tc tbk 3 (.mk ?_)
  refine sY (yv_makeIface rfl Tryz.underlying82 (by intro _ h; cases h) rfl) ?_
  refine tr tbk 2 (.mk ?_)
  obtain rfl := nxt_e h1
  refine w_ret (hret _ _ (hk [(1, ⟨31, 10, true, true, v3, [(GState.av a1)]⟩), (2, ⟨37, 9, true, true, v4, [[int a2.Kind, int a2.E, int a2.Item, int a2.Loc, int a2.To, int a2.Qty, int a2.Amount, int a2.Ref, lst 1 fI a2.Refs]]⟩), (3, ⟨31, 10, true, true, v5, [[int 0, int 0, .sc (.slice none 0 0), .sc (.slice none 0 0), .sc (.slice none 0 0), .sc (.slice none 0 0), .sc (.slice none 0 0), .sc (.slice none 0 0), .sc (.slice none 0 0), int 0]]⟩)]) (.tmp rfl .nil) (HK.le ⟨rfl, rfl, rfl, trivial⟩) ?_)
  exact (.inr (.inl ⟨(), (), rfl, rfl, rfl⟩))
  replace h1 := ct h1
  refine tc tbk 3 (.mk ?_)
  refine sY (yv_makeIface rfl Tryz.underlying82 (by intro _ h; cases h) rfl) ?_
  refine tr tbk 2 (.mk ?_)
  obtain rfl := nxt_e h1
  refine w_ret (hret _ _ (hk [(1, ⟨31, 10, true, true, v3, [(GState.av a1)]⟩), (2, ⟨37, 9, true, true, v4, [[int a2.Kind, int a2.E, int a2.Item, int a2.Loc, int a2.To, int a2.Qty, int a2.Amount, int a2.Ref, lst 1 fI a2.Refs]]⟩), (3, ⟨31, 10, true, true, v5, [[int 0, int 0, .sc (.slice none 0 0), .sc (.slice none 0 0), .sc (.slice none 0 0), .sc (.slice none 0 0), .sc (.slice none 0 0), .sc (.slice none 0 0), .sc (.slice none 0 0), int 0]]⟩)]) (.tmp rfl .nil) (HK.le ⟨rfl, rfl, rfl, trivial⟩) ?_)
  exact (.inr (.inr (.inl ⟨(), (), rfl, rfl, rfl⟩)))
  replace h1 := ct h1
  refine tc tbk 3 (.mk ?_)
  refine sY (yv_makeIface rfl Tryz.underlying82 (by intro _ h; cases h) rfl) ?_
  refine tr tbk 2 (.mk ?_)
  obtain rfl := nxt_e h1
  refine w_ret (hret _ _ (hk [(1, ⟨31, 10, true, true, v3, [(GState.av a1)]⟩), (2, ⟨37, 9, true, true, v4, [[int a2.Kind, int a2.E, int a2.Item, int a2.Loc, int a2.To, int a2.Qty, int a2.Amount, int a2.Ref, lst 1 fI a2.Refs]]⟩), (3, ⟨31, 10, true, true, v5, [[int 0, int 0, .sc (.slice none 0 0), .sc (.slice none 0 0), .sc (.slice none 0 0), .sc (.slice none 0 0), .sc (.slice none 0 0), .sc (.slice none 0 0), .sc (.slice none 0 0), int 0]]⟩)]) (.tmp rfl .nil) (HK.le ⟨rfl, rfl, rfl, trivial⟩) ?_)
  exact (.inr (.inr (.inr ⟨(), (), rfl, rfl, rfl⟩)))
  rintro y _ (⟨_, _, rfl, hc, rfl⟩ | ⟨_, _, rfl, hc, rfl⟩ | ⟨_, _, rfl, hc, rfl⟩ | ⟨_, _, rfl, hc, rfl⟩)
  replace h0 := selr_l h0
  subst hc
  refine tr tbk 4 (.mk ?_)
  refine jn h0 [2, 3, 4, 5, 6] [1, 2, 3] (fun (a : Unit) (k : Unit) => [(18, boo true)]) (fun a k => []) ⟨fun j24 h1 => ?_, ?_⟩
  refine tc tbk 2 (.mk ?_)
  obtain ⟨x25, e25, h1⟩ := bind_e h1
  refine sC cal19 (d_ops_Check_c e25) ?_
  refine nb tbk h1 fun x26 h1 => ?_
  refine tr tbk 1 (.mk ?_)
  cases x26
  replace h1 := cf h1
  refine tr tbk 1 (.mk ?_)
  refine sY (yv_ifeqN rfl Tryz.underlying65 rfl rfl) ?_
  refine tr tbk 2 (.mk ?_)
  exact lf h1 () leA
  replace h1 := ct h1
  refine tr tbk 4 (.mk ?_)
  exact lf h1 () leA
  rintro _ _ h0
  refine tc tbk 4 (.mk ?_)
  refine sS ⟨31, 10, true, true, v5, [(GState.av a1)]⟩ sh31 ?_
  refine tr tbk 2 (.mk ?_)
  obtain rfl := nxt_e h0
  refine wR hret (rC sh31 (rT .nil)) ?_
  exact .refl _
  replace h0 := selr_r h0
  replace h0 := selr_l h0
  subst hc
  refine tr tbk 4 (.mk ?_)
  refine jn h0 [2, 3, 4, 5, 6] [1, 2, 3] (fun (a : Bool) (k : Unit) => [(18, boo a)]) (fun a k => []) ⟨fun j27 h1 => ?_, ?_⟩
  refine tc tbk 2 (.mk ?_)
  obtain ⟨x28, e28, h1⟩ := bind_e h1
  refine sC cal19 (d_ops_Check_c e28) ?_
  refine nb tbk h1 fun x29 h1 => ?_
  refine tr tbk 1 (.mk ?_)
  cases x29
  replace h1 := cf h1
  refine tr tbk 1 (.mk ?_)
  refine sY (yv_ifeq rfl Tryz.underlying65 rfl rfl) ?_
  refine tr tbk 2 (.mk ?_)
  exact lf h1 () leA
  replace h1 := ct h1
  refine tr tbk 4 (.mk ?_)
  exact lf h1 () leA
  rintro y8_1 _ h0
  cases y8_1
  replace h0 := cf h0
  refine tc tbk 7 (.mk ?_)
  obtain ⟨j30, h1, h0⟩ := bind_e h0
  refine rse (Out := fun y H' => (∃ (a : GState × Int) (k : Unit), a = j30 ∧ y = .tup [.agg (GState.av a.1), int a.2] ∧ H' = hk [(1, ⟨31, 10, true, true, v3, [(GState.av a1)]⟩), (2, ⟨37, 9, true, true, v4, [[int a2.Kind, int a2.E, int a2.Item, int a2.Loc, int a2.To, int a2.Qty, int a2.Amount, int a2.Ref, lst 1 fI a2.Refs]]⟩), (3, ⟨31, 10, true, true, v5, [[int 0, int 0, .sc (.slice none 0 0), .sc (.slice none 0 0), .sc (.slice none 0 0), .sc (.slice none 0 0), .sc (.slice none 0 0), .sc (.slice none 0 0), .sc (.slice none 0 0), int 0]]⟩)])) rfl rfl rfl (yl_callI rfl rfl mth82_301 (.cons rfl (.cons rfl .nil)) cal301 ?_) ?_
  refine pcw (c := _) Tryz.func301 rfl rfl ?_; intro Q hret hnorm
  refine tc tbk 2 (.mk ?_)
  refine sB 4 fun v31 => ?_
  refine sB 5 fun v32 => ?_
  refine sA 6 z31 fun v33 => ?_
  refine tr tbk 7 (.mk ?_)
  obtain ⟨x34, e34, h1⟩ := bind_e h1
  refine sC cal41 (d_ship_Do_c e34) ?_
  refine tr tbk 2 (.mk ?_)
  refine sS ⟨31, 10, true, true, v33, [(GState.av x34.1)]⟩ sh31 ?_
  refine tr tbk 2 (.mk ?_)
  obtain rfl := nxt_e h1
  refine w_ret (hret _ _ (hk [(1, ⟨31, 10, true, true, v3, [(GState.av a1)]⟩), (2, ⟨37, 9, true, true, v4, [[int a2.Kind, int a2.E, int a2.Item, int a2.Loc, int a2.To, int a2.Qty, int a2.Amount, int a2.Ref, lst 1 fI a2.Refs]]⟩), (3, ⟨31, 10, true, true, v5, [[int 0, int 0, .sc (.slice none 0 0), .sc (.slice none 0 0), .sc (.slice none 0 0), .sc (.slice none 0 0), .sc (.slice none 0 0), .sc (.slice none 0 0), .sc (.slice none 0 0), int 0]]⟩)]) (.cell rfl (.pt rfl rfl rfl) sh31 rfl (.tmp rfl .nil)) (HK.le ⟨rfl, rfl, rfl, trivial⟩) ?_)
  exact ⟨(x34.1, x34.2), (), rfl, rfl, rfl⟩
  rintro y _ ⟨⟨y9_1, y9_2⟩, _, rfl, hc, rfl⟩
  replace h0 := p2_e h0
  subst hc
  refine tr tbk 3 (.mk ?_)
  refine sA 7 z31 fun v35 => ?_
  refine sS ⟨31, 10, true, true, v35, [(GState.av y9_1)]⟩ sh31 ?_
  refine tr tbk 6 (.mk ?_)
  refine nb tbk h0 fun x36 h0 => ?_
  refine tr tbk 1 (.mk ?_)
  cases x36
  replace h0 := cf h0
  refine tc tbk 6 (.mk ?_)
  refine ni tbk h0 fun x37 h0 => ?_
  obtain ⟨x38, e38, h0⟩ := bnd_e h0
  refine sY (yv_min rfl rfl rfl e38) ?_
  refine tr tbk 1 (.mk ?_)
  refine sS ⟨31, 10, true, true, v35, [[int y9_1.Master.Entities, int y9_1.Master.Periods, lst 1 fI y9_1.Master.Weights, lst 1 (fL 1 fI) y9_1.Master.Methods, lst 1 (fL 1 fI) y9_1.Master.Costs, lst 8 GEnt.av y9_1.Ents, lst 8 GReceipt.av y9_1.Receipts, lst 9 GSale.av y9_1.Sales, lst 6 GTransit.av y9_1.Transits, int x38]]⟩ sh3 ?_
  refine tr tbk 4 (.mk ?_)
  refine sS ⟨31, 10, true, true, v5, [[int y9_1.Master.Entities, int y9_1.Master.Periods, lst 1 fI y9_1.Master.Weights, lst 1 (fL 1 fI) y9_1.Master.Methods, lst 1 (fL 1 fI) y9_1.Master.Costs, lst 8 GEnt.av y9_1.Ents, lst 8 GReceipt.av y9_1.Receipts, lst 9 GSale.av y9_1.Sales, lst 6 GTransit.av y9_1.Transits, int x38]]⟩ sh31 ?_
  refine tr tbk 2 (.mk ?_)
  obtain rfl := nxt_e h0
  refine wR hret (rC sh31 (rT .nil)) ?_
  exact .refl _
  replace h0 := ct h0
  refine tc tbk 5 (.mk ?_)
  refine sS ⟨31, 10, true, true, v5, [(GState.av a1)]⟩ sh31 ?_
  refine tr tbk 2 (.mk ?_)
  obtain rfl := nxt_e h0
  refine wR hret (rC sh31 (rT .nil)) ?_
  exact .refl _
  replace h0 := ct h0
  refine tc tbk 4 (.mk ?_)
  refine sS ⟨31, 10, true, true, v5, [(GState.av a1)]⟩ sh31 ?_
  refine tr tbk 2 (.mk ?_)
  obtain rfl := nxt_e h0
  refine wR hret (rC sh31 (rT .nil)) ?_
  exact .refl _
  replace h0 := selr_r h0
  replace h0 := selr_r h0
  replace h0 := selr_l h0
  subst hc
  refine tr tbk 4 (.mk ?_)
  refine jn h0 [2, 3, 4, 5, 6] [1, 2, 3] (fun (a : Bool) (k : Unit) => [(18, boo a)]) (fun a k => []) ⟨fun j39 h1 => ?_, ?_⟩
  refine tc tbk 2 (.mk ?_)
  obtain ⟨x40, e40, h1⟩ := bind_e h1
  refine sC cal19 (d_ops_Check_c e40) ?_
  refine nb tbk h1 fun x41 h1 => ?_
  refine tr tbk 1 (.mk ?_)
  cases x41
  replace h1 := cf h1
  refine tr tbk 1 (.mk ?_)
  refine sY (yv_ifeq rfl Tryz.underlying65 rfl rfl) ?_
  refine tr tbk 2 (.mk ?_)
  exact lf h1 () leA
  replace h1 := ct h1
  refine tr tbk 4 (.mk ?_)
  exact lf h1 () leA
  rintro y8_1 _ h0
  cases y8_1
  replace h0 := cf h0
  refine tc tbk 7 (.mk ?_)
  obtain ⟨j42, h1, h0⟩ := bind_e h0
  refine rse (Out := fun y H' => (∃ (a : GState × Int) (k : Unit), a = j42 ∧ y = .tup [.agg (GState.av a.1), int a.2] ∧ H' = hk [(1, ⟨31, 10, true, true, v3, [(GState.av a1)]⟩), (2, ⟨37, 9, true, true, v4, [[int a2.Kind, int a2.E, int a2.Item, int a2.Loc, int a2.To, int a2.Qty, int a2.Amount, int a2.Ref, lst 1 fI a2.Refs]]⟩), (3, ⟨31, 10, true, true, v5, [[int 0, int 0, .sc (.slice none 0 0), .sc (.slice none 0 0), .sc (.slice none 0 0), .sc (.slice none 0 0), .sc (.slice none 0 0), .sc (.slice none 0 0), .sc (.slice none 0 0), int 0]]⟩)])) rfl rfl rfl (yl_callI rfl rfl mth82_301 (.cons rfl (.cons rfl .nil)) cal301 ?_) ?_
  refine pcw (c := _) Tryz.func301 rfl rfl ?_; intro Q hret hnorm
  refine tc tbk 2 (.mk ?_)
  refine sB 8 fun v43 => ?_
  refine sB 9 fun v44 => ?_
  refine sA 10 z31 fun v45 => ?_
  refine tr tbk 7 (.mk ?_)
  obtain ⟨x46, e46, h1⟩ := bind_e h1
  refine sC cal37 (d_sell_Do_c e46) ?_
  refine tr tbk 2 (.mk ?_)
  refine sS ⟨31, 10, true, true, v45, [(GState.av x46.1)]⟩ sh31 ?_
  refine tr tbk 2 (.mk ?_)
  obtain rfl := nxt_e h1
  refine w_ret (hret _ _ (hk [(1, ⟨31, 10, true, true, v3, [(GState.av a1)]⟩), (2, ⟨37, 9, true, true, v4, [[int a2.Kind, int a2.E, int a2.Item, int a2.Loc, int a2.To, int a2.Qty, int a2.Amount, int a2.Ref, lst 1 fI a2.Refs]]⟩), (3, ⟨31, 10, true, true, v5, [[int 0, int 0, .sc (.slice none 0 0), .sc (.slice none 0 0), .sc (.slice none 0 0), .sc (.slice none 0 0), .sc (.slice none 0 0), .sc (.slice none 0 0), .sc (.slice none 0 0), int 0]]⟩)]) (.cell rfl (.pt rfl rfl rfl) sh31 rfl (.tmp rfl .nil)) (HK.le ⟨rfl, rfl, rfl, trivial⟩) ?_)
  exact ⟨(x46.1, x46.2), (), rfl, rfl, rfl⟩
  rintro y _ ⟨⟨y10_1, y10_2⟩, _, rfl, hc, rfl⟩
  replace h0 := p2_e h0
  subst hc
  refine tr tbk 3 (.mk ?_)
  refine sA 7 z31 fun v47 => ?_
  refine sS ⟨31, 10, true, true, v47, [(GState.av y10_1)]⟩ sh31 ?_
  refine tr tbk 6 (.mk ?_)
  refine nb tbk h0 fun x48 h0 => ?_
  refine tr tbk 1 (.mk ?_)
  cases x48
  replace h0 := cf h0
  refine tc tbk 6 (.mk ?_)
  refine ni tbk h0 fun x49 h0 => ?_
  obtain ⟨x50, e50, h0⟩ := bnd_e h0
  refine sY (yv_min rfl rfl rfl e50) ?_
  refine tr tbk 1 (.mk ?_)
  refine sS ⟨31, 10, true, true, v47, [[int y10_1.Master.Entities, int y10_1.Master.Periods, lst 1 fI y10_1.Master.Weights, lst 1 (fL 1 fI) y10_1.Master.Methods, lst 1 (fL 1 fI) y10_1.Master.Costs, lst 8 GEnt.av y10_1.Ents, lst 8 GReceipt.av y10_1.Receipts, lst 9 GSale.av y10_1.Sales, lst 6 GTransit.av y10_1.Transits, int x50]]⟩ sh3 ?_
  refine tr tbk 4 (.mk ?_)
  refine sS ⟨31, 10, true, true, v5, [[int y10_1.Master.Entities, int y10_1.Master.Periods, lst 1 fI y10_1.Master.Weights, lst 1 (fL 1 fI) y10_1.Master.Methods, lst 1 (fL 1 fI) y10_1.Master.Costs, lst 8 GEnt.av y10_1.Ents, lst 8 GReceipt.av y10_1.Receipts, lst 9 GSale.av y10_1.Sales, lst 6 GTransit.av y10_1.Transits, int x50]]⟩ sh31 ?_
  refine tr tbk 2 (.mk ?_)
  obtain rfl := nxt_e h0
  refine wR hret (rC sh31 (rT .nil)) ?_
  exact .refl _
  replace h0 := ct h0
  refine tc tbk 5 (.mk ?_)
  refine sS ⟨31, 10, true, true, v5, [(GState.av a1)]⟩ sh31 ?_
  refine tr tbk 2 (.mk ?_)
  obtain rfl := nxt_e h0
  refine wR hret (rC sh31 (rT .nil)) ?_
  exact .refl _
  replace h0 := ct h0
  refine tc tbk 4 (.mk ?_)
  refine sS ⟨31, 10, true, true, v5, [(GState.av a1)]⟩ sh31 ?_
  refine tr tbk 2 (.mk ?_)
  obtain rfl := nxt_e h0
  refine wR hret (rC sh31 (rT .nil)) ?_
  exact .refl _
  replace h0 := selr_r h0
  replace h0 := selr_r h0
  replace h0 := selr_r h0
  subst hc
  refine tr tbk 4 (.mk ?_)
  refine jn h0 [2, 3, 4, 5, 6] [1, 2, 3] (fun (a : Bool) (k : Unit) => [(18, boo a)]) (fun a k => []) ⟨fun j51 h1 => ?_, ?_⟩
  refine tc tbk 2 (.mk ?_)
  obtain ⟨x52, e52, h1⟩ := bind_e h1
  refine sC cal19 (d_ops_Check_c e52) ?_
  refine nb tbk h1 fun x53 h1 => ?_
  refine tr tbk 1 (.mk ?_)
  cases x53
  replace h1 := cf h1
  refine tr tbk 1 (.mk ?_)
  refine sY (yv_ifeq rfl Tryz.underlying65 rfl rfl) ?_
  refine tr tbk 2 (.mk ?_)
  exact lf h1 () leA
  replace h1 := ct h1
  refine tr tbk 4 (.mk ?_)
  exact lf h1 () leA
  rintro y8_1 _ h0
  cases y8_1
  replace h0 := cf h0
  refine tc tbk 7 (.mk ?_)
  obtain ⟨j54, h1, h0⟩ := bind_e h0
  refine rse (Out := fun y H' => (∃ (a : GState × Int) (k : Unit), a = j54 ∧ y = .tup [.agg (GState.av a.1), int a.2] ∧ H' = hk [(1, ⟨31, 10, true, true, v3, [(GState.av a1)]⟩), (2, ⟨37, 9, true, true, v4, [[int a2.Kind, int a2.E, int a2.Item, int a2.Loc, int a2.To, int a2.Qty, int a2.Amount, int a2.Ref, lst 1 fI a2.Refs]]⟩), (3, ⟨31, 10, true, true, v5, [[int 0, int 0, .sc (.slice none 0 0), .sc (.slice none 0 0), .sc (.slice none 0 0), .sc (.slice none 0 0), .sc (.slice none 0 0), .sc (.slice none 0 0), .sc (.slice none 0 0), int 0]]⟩)])) rfl rfl rfl (yl_callI rfl rfl mth82_301 (.cons rfl (.cons rfl .nil)) cal301 ?_) ?_
  refine pcw (c := _) Tryz.func301 rfl rfl ?_; intro Q hret hnorm
  refine tc tbk 2 (.mk ?_)
  refine sB 11 fun v55 => ?_
  refine sB 12 fun v56 => ?_
  refine sA 13 z31 fun v57 => ?_
  refine tr tbk 7 (.mk ?_)
  obtain ⟨x58, e58, h1⟩ := bind_e h1
  refine sC cal36 (d_receive_Do_c e58) ?_
  refine tr tbk 2 (.mk ?_)
  refine sS ⟨31, 10, true, true, v57, [(GState.av x58.1)]⟩ sh31 ?_
  refine tr tbk 2 (.mk ?_)
  obtain rfl := nxt_e h1
  refine w_ret (hret _ _ (hk [(1, ⟨31, 10, true, true, v3, [(GState.av a1)]⟩), (2, ⟨37, 9, true, true, v4, [[int a2.Kind, int a2.E, int a2.Item, int a2.Loc, int a2.To, int a2.Qty, int a2.Amount, int a2.Ref, lst 1 fI a2.Refs]]⟩), (3, ⟨31, 10, true, true, v5, [[int 0, int 0, .sc (.slice none 0 0), .sc (.slice none 0 0), .sc (.slice none 0 0), .sc (.slice none 0 0), .sc (.slice none 0 0), .sc (.slice none 0 0), .sc (.slice none 0 0), int 0]]⟩)]) (.cell rfl (.pt rfl rfl rfl) sh31 rfl (.tmp rfl .nil)) (HK.le ⟨rfl, rfl, rfl, trivial⟩) ?_)
  exact ⟨(x58.1, x58.2), (), rfl, rfl, rfl⟩
  rintro y _ ⟨⟨y11_1, y11_2⟩, _, rfl, hc, rfl⟩
  replace h0 := p2_e h0
  subst hc
  refine tr tbk 3 (.mk ?_)
  refine sA 7 z31 fun v59 => ?_
  refine sS ⟨31, 10, true, true, v59, [(GState.av y11_1)]⟩ sh31 ?_
  refine tr tbk 6 (.mk ?_)
  refine nb tbk h0 fun x60 h0 => ?_
  refine tr tbk 1 (.mk ?_)
  cases x60
  replace h0 := cf h0
  refine tc tbk 6 (.mk ?_)
  refine ni tbk h0 fun x61 h0 => ?_
  obtain ⟨x62, e62, h0⟩ := bnd_e h0
  refine sY (yv_min rfl rfl rfl e62) ?_
  refine tr tbk 1 (.mk ?_)
  refine sS ⟨31, 10, true, true, v59, [[int y11_1.Master.Entities, int y11_1.Master.Periods, lst 1 fI y11_1.Master.Weights, lst 1 (fL 1 fI) y11_1.Master.Methods, lst 1 (fL 1 fI) y11_1.Master.Costs, lst 8 GEnt.av y11_1.Ents, lst 8 GReceipt.av y11_1.Receipts, lst 9 GSale.av y11_1.Sales, lst 6 GTransit.av y11_1.Transits, int x62]]⟩ sh3 ?_
  refine tr tbk 4 (.mk ?_)
  refine sS ⟨31, 10, true, true, v5, [[int y11_1.Master.Entities, int y11_1.Master.Periods, lst 1 fI y11_1.Master.Weights, lst 1 (fL 1 fI) y11_1.Master.Methods, lst 1 (fL 1 fI) y11_1.Master.Costs, lst 8 GEnt.av y11_1.Ents, lst 8 GReceipt.av y11_1.Receipts, lst 9 GSale.av y11_1.Sales, lst 6 GTransit.av y11_1.Transits, int x62]]⟩ sh31 ?_
  refine tr tbk 2 (.mk ?_)
  obtain rfl := nxt_e h0
  refine wR hret (rC sh31 (rT .nil)) ?_
  exact .refl _
  replace h0 := ct h0
  refine tc tbk 5 (.mk ?_)
  refine sS ⟨31, 10, true, true, v5, [(GState.av a1)]⟩ sh31 ?_
  refine tr tbk 2 (.mk ?_)
  obtain rfl := nxt_e h0
  refine wR hret (rC sh31 (rT .nil)) ?_
  exact .refl _
  replace h0 := ct h0
  refine tc tbk 4 (.mk ?_)
  refine sS ⟨31, 10, true, true, v5, [(GState.av a1)]⟩ sh31 ?_
  refine tr tbk 2 (.mk ?_)
  obtain rfl := nxt_e h0
  refine wR hret (rC sh31 (rT .nil)) ?_
  exact .refl _
def d_law00_Place (a1 : Int) (a2 : Int) : Option (Int) :=
asrt (a2 ≠ 0) <|
bnd (a1.tmod a2) fun x4 =>
bnd (decide (x4 < 0)) fun x5 =>
(show Option (Int) from
cond x5 (bnd (w64 (x4 + a2)) fun x7 =>
some (x7 : Int)) (some (x4 : Int))).bind <| fun y0_1 =>
some ((y0_1 : Int))
theorem d_law00_Place_c {a1 : Int} {a2 : Int} {r : Int} (h0 : d_law00_Place a1 a2 = some r) : PP Tryz.prog 9 [int a1, int a2] (fun y => y = int r) := by
  unfold d_law00_Place at h0
  refine pp_of_pc (R0 := fun y H => Cv (frzH H) y (int r)) ?_ (fun y H hc => ⟨_, rfl, pvI r, hc⟩)
  refine pcw (c := _) Tryz.func9 rfl rfl ?_; intro Q hret hnorm
  refine tc tbk 8 (.mk ?_)
  obtain ⟨p3, h0⟩ := asrt_e h0
  obtain ⟨x4, e4, h0⟩ := bnd_e h0
  refine sY (yv_rem rfl rfl rfl p3 e4) ?_
  refine tr tbk 6 (.mk ?_)
  refine nb tbk h0 fun x5 h0 => ?_
  refine tr tbk 1 (.mk ?_)
  refine jn h0 [4] [] (fun (a : Int) (k : Unit) => [(5, int a)]) (fun a k => []) ⟨fun j6 h1 => ?_, ?_⟩
  cases x5
  replace h1 := cf h1
  refine tc tbk 2 (.mk ?_)
  exact lf h1 () leA
  replace h1 := ct h1
  refine tc tbk 4 (.mk ?_)
  refine ni tbk h1 fun x7 h1 => ?_
  refine tr tbk 2 (.mk ?_)
  exact lf h1 () leA
  rintro y0_1 _ h0
  refine tc tbk 5 (.mk ?_)
  obtain rfl := nxt_e h0
  refine wR hret (rT .nil) ?_
  exact .refl _
def d_law00_Master_L0 (x3 : Int) (x8 : Int) : Nat → Int → (List Int) → Option ((List Int))
  | 0, _, _ => none
  | n + 1, y0_1, y0_3 =>
    bnd (decide (y0_1 < x8)) fun x15 =>
    cond x15 (bnd (w64 (x3.tdiv 24)) fun x16 =>
    bnd (x16.tmod 7) fun x17 =>
    bnd (w64 (x17 + y0_1)) fun x18 =>
    bnd (y0_3 ++ ([x18] : List Int)) fun x19 =>
    asrt (x19.length ≤ 68719476736) <|
    bnd (w64 (y0_1 + 1)) fun x22 =>
    d_law00_Master_L0 x3 x8 n (x22 : Int) (x19 : List Int)) (some (y0_3 : List Int))
def d_law00_Master_L2 (x3 : Int) (x8 : Int) (y2_1 : Int) : Nat → Int → (List Int) → (List Int) → Option ((List Int) × (List Int))
  | 0, _, _, _ => none
  | n + 1, y3_3, y3_4, y3_5 =>
    bnd (decide (y3_3 < x8)) fun x31 =>
    cond x31 (bnd (w64 (x3.tdiv 168)) fun x32 =>
    bnd (w64 (x32 + y3_3)) fun x33 =>
    bnd (w64 (x3.tdiv 672)) fun x34 =>
    bnd (x34.tmod 4) fun x35 =>
    bnd (w64 (y2_1 * x35)) fun x36 =>
    bnd (w64 (x33 + x36)) fun x37 =>
    bnd (x37.tmod 4) fun x38 =>
    bnd (w64 (1 + x38)) fun x39 =>
    bnd (y3_4 ++ ([x39] : List Int)) fun x40 =>
    asrt (x40.length ≤ 68719476736) <|
    bnd (w64 (x3.tdiv 2688)) fun x43 =>
    bnd (w64 (7 * y3_3)) fun x44 =>
    bnd (w64 (x43 + x44)) fun x45 =>
    bnd (w64 (x45 + y2_1)) fun x46 =>
    bnd (x46.tmod 40) fun x47 =>
    bnd (y3_5 ++ ([x47] : List Int)) fun x48 =>
    asrt (x48.length ≤ 68719476736) <|
    bnd (w64 (y3_3 + 1)) fun x51 =>
    d_law00_Master_L2 x3 x8 y2_1 n (x51 : Int) (x40 : List Int) (x48 : List Int)) (some ((y3_4 : List Int), (y3_5 : List Int)))
def d_law00_Master_L1 (x3 : Int) (x5 : Int) (x8 : Int) : Nat → Int → (List (List Int)) → (List (List Int)) → Option ((List (List Int)) × (List (List Int)))
  | 0, _, _, _ => none
  | n + 1, y2_1, y2_4, y2_5 =>
    bnd (decide (y2_1 < x5)) fun x26 =>
    cond x26 ((show Option ((List (List Int)) × (List (List Int))) from
    (show Option ((List Int) × (List Int)) from
    d_law00_Master_L2 x3 x8 y2_1 n (0 : Int) (([] : List Int) : List Int) (([] : List Int) : List Int)).bind <| p2 fun (y4_3 : List Int) (y4_4 : List Int) =>
    bnd (y2_4 ++ [y4_3]) fun x52 =>
    asrt (x52.length ≤ 68719476736) <|
    bnd (y2_5 ++ [y4_4]) fun x55 =>
    asrt (x55.length ≤ 68719476736) <|
    some ((x52 : List (List Int)), (x55 : List (List Int)))).bind <| p2 fun (y5_3 : List (List Int)) (y5_4 : List (List Int)) =>
    bnd (w64 (y2_1 + 1)) fun x58 =>
    d_law00_Master_L1 x3 x5 x8 n (x58 : Int) (y5_3 : List (List Int)) (y5_4 : List (List Int))) (some ((y2_4 : List (List Int)), (y2_5 : List (List Int))))
def d_law00_Master (n : Nat) (a1 : Int) : Option (GMaster) :=
(d_law00_Place a1 1073741824).bind fun x3 =>
bnd (x3.tmod 2) fun x4 =>
bnd (w64 (2 + x4)) fun x5 =>
bnd (w64 (x3.tdiv 2)) fun x6 =>
bnd (x6.tmod 3) fun x7 =>
bnd (w64 (2 + x7)) fun x8 =>
bnd (w64 (x3.tdiv 6)) fun x9 =>
bnd (x9.tmod 4) fun x10 =>
bnd (w64 (1 + x10)) fun x11 =>
(show Option ((List Int)) from
d_law00_Master_L0 x3 x8 n (0 : Int) (([] : List Int) : List Int)).bind <| fun y1_2 =>
(show Option ((List (List Int)) × (List (List Int))) from
d_law00_Master_L1 x3 x5 x8 n (0 : Int) (([] : List (List Int)) : List (List Int)) (([] : List (List Int)) : List (List Int))).bind <| p2 fun (y6_3 : List (List Int)) (y6_4 : List (List Int)) =>
some (((⟨x5, x11, y1_2, y6_3, y6_4⟩ : GMaster) : GMaster))
theorem d_law00_Master_c {n : Nat} {a1 : Int} {r : GMaster} (h0 : d_law00_Master n a1 = some r) : PP Tryz.prog 20 [int a1] (fun y => y = .agg (GMaster.av r)) := by
  unfold d_law00_Master at h0
  refine pp_of_pc (R0 := fun y H => Cv (frzH H) y (.agg (GMaster.av r))) ?_ (fun y H hc => ⟨_, rfl, (fun (a : GMaster) => PV.agg (GMaster.pvc a)) r, hc⟩)
  refine pcw (c := _) Tryz.func20 rfl rfl ?_; intro Q hret hnorm
  refine tc tbk 2 (.mk ?_)
  refine sA 1 z25 fun v2 => ?_
  refine tr tbk 4 (.mk ?_)
  obtain ⟨x3, e3, h0⟩ := bind_e h0
  refine sC cal9 (d_law00_Place_c e3) ?_
  refine tr tbk 5 (.mk ?_)
  refine ni tbk h0 fun x4 h0 => ?_
  refine ni tbk h0 fun x5 h0 => ?_
  refine tr tbk 1 (.mk ?_)
  refine ni tbk h0 fun x6 h0 => ?_
  refine ni tbk h0 fun x7 h0 => ?_
  refine ni tbk h0 fun x8 h0 => ?_
  refine tr tbk 7 (.mk ?_)
  refine ni tbk h0 fun x9 h0 => ?_
  refine ni tbk h0 fun x10 h0 => ?_
  refine ni tbk h0 fun x11 h0 => ?_
  refine tr tbk 1 (.mk ?_)
  refine sA 2 z25 fun v12 => ?_
  refine sS ⟨25, 5, true, true, v12, [[int x5, int x11, .sc (.slice none 0 0), .sc (.slice none 0 0), .sc (.slice none 0 0)]]⟩ sh25 ?_
  refine tr tbk 6 (.mk ?_)
  refine jn h0 [2, 3, 4, 5, 6] [1] (fun (a : (List Int)) (k : Nat) => []) (fun a k => [(2, ⟨25, 5, true, true, v12, [[int x5, int x11, .sl 4 k 0 a.length, .sc (.slice none 0 0), .sc (.slice none 0 0)]]⟩), (4, ⟨3, 1, true, true, k, a.map fI⟩)]) ⟨fun j13 h1 => ?_, ?_⟩
  refine tc tbk 1 (.mk ?_)
  refine c_nilcell 2 0 2 4 3 1 (rows := fun v14 => [[int x5, int x11, .sl 4 v14 0 0, .sc (.slice none 0 0), .sc (.slice none 0 0)]]) rfl rfl rfl rfl (fun _ => rfl) ?_; intro v14
  refine lp (fun n (a : Int × (List Int)) => d_law00_Master_L0 x3 x8 n a.1 a.2) ((0 : Int), (([] : List Int) : List Int)) v14 h1 [2, 3, 4, 5, 6] [1] (fun (a : Int × (List Int)) (k : Nat) => [(7, int a.1)]) (fun a k => [(2, ⟨25, 5, true, true, v12, [[int x5, int x11, .sl 4 k 0 a.2.length, .sc (.slice none 0 0), .sc (.slice none 0 0)]]⟩), (4, ⟨3, 1, true, true, k, a.2.map fI⟩)]) (fun _ => rfl) ⟨leA, ?_⟩
  rintro n ⟨y0_1, y0_3⟩ w0_2 hm h1
  replace h1 : d_law00_Master_L0 x3 x8 (n + 1) y0_1 y0_3 = some _ := h1
  rw [d_law00_Master_L0] at h1
  refine tc tbk 5 (.mk ?_)
  refine nb tbk h1 fun x15 h1 => ?_
  refine tr tbk 1 (.mk ?_)
  cases x15
  replace h1 := cf h1
  refine tc tbk 2 (.mk ?_)
  exact lf h1 w0_2 leA
  replace h1 := ct h1
  refine tc tbk 8 (.mk ?_)
  refine ni tbk h1 fun x16 h1 => ?_
  refine ni tbk h1 fun x17 h1 => ?_
  refine tr tbk 1 (.mk ?_)
  refine ni tbk h1 fun x18 h1 => ?_
  refine sY (yv_to (y := lst 1 fI ([x18] : List Int)) (yv_buildSlice (ps := [(0, _)]) (rows := [[int x18]]) rfl Tryz.underlying22 bz3 (.cons rfl .nil) (by kernel_rfl) rfl rfl rfl) rfl) ?_
  obtain ⟨x19, e19, h1⟩ := bnd_e h1
  obtain ⟨p20, h1⟩ := asrt_e h1
  refine rse rfl rfl rfl (yl_appT (g := fI) (l := y0_3) (m := ([x18] : List Int)) .any rfl Tryz.underlying22 bz3 by3 rfl rfl rfl rfl rfl rfl rfl rfl rfl rfl (Eq.symm rfl) (.refl _) (fun _ => rfl) e19 p20) ?_; rintro _ _ ⟨v21, -, rfl, rfl⟩
  refine tr tbk 1 (.mk ?_)
  refine sS ⟨25, 5, true, true, v12, [[int x5, int x11, .sl 4 v21 0 x19.length, .sc (.slice none 0 0), .sc (.slice none 0 0)]]⟩ sh22 ?_
  refine tr tbk 4 (.mk ?_)
  refine ni tbk h1 fun x22 h1 => ?_
  refine tr tbk 2 (.mk ?_)
  exact bk (x22, x19) v21 h1 leA
  rintro y1_2 w1_1 h0
  refine tc tbk 5 (.mk ?_)
  refine jn h0 [2, 6] [1, 4] (fun (a : (List (List Int)) × (List (List Int))) (k : Nat × Nat) => []) (fun a k => [(2, ⟨25, 5, true, true, v12, [[int x5, int x11, .sl 4 w1_1 0 y1_2.length, .sl 11 k.1 0 a.1.length, .sl 12 k.2 0 a.2.length]]⟩), (11, ⟨22, 1, true, true, k.1, a.1.map (fL 1 fI)⟩), (12, ⟨22, 1, true, true, k.2, a.2.map (fL 1 fI)⟩)]) ⟨fun j23 h1 => ?_, ?_⟩
  refine tc tbk 1 (.mk ?_)
  refine c_nilcell 2 0 3 11 22 1 (rows := fun v24 => [[int x5, int x11, .sl 4 w1_1 0 y1_2.length, .sl 11 v24 0 0, .sc (.slice none 0 0)]]) rfl rfl rfl rfl (fun _ => rfl) ?_; intro v24
  refine c_nilcell 2 0 4 12 22 1 (rows := fun v25 => [[int x5, int x11, .sl 4 w1_1 0 y1_2.length, .sl 11 v24 0 0, .sl 12 v25 0 0]]) rfl rfl rfl rfl (fun _ => rfl) ?_; intro v25
  refine lp (fun n (a : Int × (List (List Int)) × (List (List Int))) => d_law00_Master_L1 x3 x5 x8 n a.1 a.2.1 a.2.2) ((0 : Int), (([] : List (List Int)) : List (List Int)), (([] : List (List Int)) : List (List Int))) (v24, v25) h1 [2, 3, 4, 5, 6] [1, 4] (fun (a : Int × (List (List Int)) × (List (List Int))) (k : Nat × Nat) => [(8, int a.1)]) (fun a k => [(2, ⟨25, 5, true, true, v12, [[int x5, int x11, .sl 4 w1_1 0 y1_2.length, .sl 11 k.1 0 a.2.1.length, .sl 12 k.2 0 a.2.2.length]]⟩), (11, ⟨22, 1, true, true, k.1, a.2.1.map (fL 1 fI)⟩), (12, ⟨22, 1, true, true, k.2, a.2.2.map (fL 1 fI)⟩)]) (fun _ => rfl) ⟨leA, ?_⟩
  rintro n ⟨y2_1, y2_4, y2_5⟩ ⟨w2_2, w2_3⟩ hm h1
  replace h1 : d_law00_Master_L1 x3 x5 x8 (n + 1) y2_1 y2_4 y2_5 = some _ := h1
  rw [d_law00_Master_L1] at h1
  refine tc tbk 5 (.mk ?_)
  refine nb tbk h1 fun x26 h1 => ?_
  refine tr tbk 1 (.mk ?_)
  cases x26
  replace h1 := cf h1
  refine tc tbk 2 (.mk ?_)
  exact lf h1 (w2_2, w2_3) leA
  replace h1 := ct h1
  refine tc tbk 3 (.mk ?_)
  refine jn h1 [2, 3, 4, 5, 6, 8] [1, 4] (fun (a : (List (List Int)) × (List (List Int))) (k : Nat × Nat) => []) (fun a k => [(2, ⟨25, 5, true, true, v12, [[int x5, int x11, .sl 4 w1_1 0 y1_2.length, .sl 11 k.1 0 a.1.length, .sl 12 k.2 0 a.2.length]]⟩), (11, ⟨22, 1, true, true, k.1, a.1.map (fL 1 fI)⟩), (12, ⟨22, 1, true, true, k.2, a.2.map (fL 1 fI)⟩)]) ⟨fun j27 h2 => ?_, ?_⟩
  refine tc tbk 11 (.mk ?_)
  refine jn h2 [2, 3, 4, 5, 6, 8] [1, 2, 4, 11, 12] (fun (a : (List Int) × (List Int)) (k : Nat × Nat) => [(9, .sl 7 k.1 0 a.1.length), (10, .sl 8 k.2 0 a.2.length)]) (fun a k => [(7, ⟨3, 1, true, true, k.1, a.1.map fI⟩), (8, ⟨3, 1, true, true, k.2, a.2.map fI⟩)]) ⟨fun j28 h3 => ?_, ?_⟩
  refine tc tbk 1 (.mk ?_)
  refine c_nilobj 9 7 3 1 rfl rfl ?_; intro v29
  refine c_nilobj 10 8 3 1 rfl rfl ?_; intro v30
  refine lp (fun n (a : Int × (List Int) × (List Int)) => d_law00_Master_L2 x3 x8 y2_1 n a.1 a.2.1 a.2.2) ((0 : Int), (([] : List Int) : List Int), (([] : List Int) : List Int)) (v29, v30) h3 [2, 3, 4, 5, 6, 8] [1, 2, 4, 11, 12] (fun (a : Int × (List Int) × (List Int)) (k : Nat × Nat) => [(9, .sl 7 k.1 0 a.2.1.length), (10, .sl 8 k.2 0 a.2.2.length), (11, int a.1)]) (fun a k => [(7, ⟨3, 1, true, true, k.1, a.2.1.map fI⟩), (8, ⟨3, 1, true, true, k.2, a.2.2.map fI⟩)]) (fun _ => rfl) ⟨leA, ?_⟩
  rintro n ⟨y3_3, y3_4, y3_5⟩ ⟨w3_1, w3_2⟩ hm h3
  replace h3 : d_law00_Master_L2 x3 x8 y2_1 (n + 1) y3_3 y3_4 y3_5 = some _ := h3
  rw [d_law00_Master_L2] at h3
  refine tc tbk 5 (.mk ?_)
  refine nb tbk h3 fun x31 h3 => ?_
  refine tr tbk 1 (.mk ?_)
  cases x31
  replace h3 := cf h3
  refine tc tbk 2 (.mk ?_)
  exact lf h3 (w3_1, w3_2) leA
  replace h3 := ct h3
  refine tc tbk 7 (.mk ?_)
  refine ni tbk h3 fun x32 h3 => ?_
  refine tr tbk 1 (.mk ?_)
  refine ni tbk h3 fun x33 h3 => ?_
  refine tr tbk 2 (.mk ?_)
  refine ni tbk h3 fun x34 h3 => ?_
  refine ni tbk h3 fun x35 h3 => ?_
  refine ni tbk h3 fun x36 h3 => ?_
  refine ni tbk h3 fun x37 h3 => ?_
  refine ni tbk h3 fun x38 h3 => ?_
  refine ni tbk h3 fun x39 h3 => ?_
  refine sY (yv_to (y := lst 1 fI ([x39] : List Int)) (yv_buildSlice (ps := [(0, _)]) (rows := [[int x39]]) rfl Tryz.underlying22 bz3 (.cons rfl .nil) (by kernel_rfl) rfl rfl rfl) rfl) ?_
  obtain ⟨x40, e40, h3⟩ := bnd_e h3
  obtain ⟨p41, h3⟩ := asrt_e h3
  refine rse rfl rfl rfl (yl_appT (g := fI) (l := y3_4) (m := ([x39] : List Int)) .any rfl Tryz.underlying22 bz3 by3 rfl rfl rfl rfl rfl rfl rfl rfl rfl rfl (Eq.symm rfl) (.refl _) (fun _ => rfl) e40 p41) ?_; rintro _ _ ⟨v42, -, rfl, rfl⟩
  refine tr tbk 2 (.mk ?_)
  refine ni tbk h3 fun x43 h3 => ?_
  refine tr tbk 1 (.mk ?_)
  refine ni tbk h3 fun x44 h3 => ?_
  refine ni tbk h3 fun x45 h3 => ?_
  refine tr tbk 1 (.mk ?_)
  refine ni tbk h3 fun x46 h3 => ?_
  refine ni tbk h3 fun x47 h3 => ?_
  refine sY (yv_to (y := lst 1 fI ([x47] : List Int)) (yv_buildSlice (ps := [(0, _)]) (rows := [[int x47]]) rfl Tryz.underlying22 bz3 (.cons rfl .nil) (by kernel_rfl) rfl rfl rfl) rfl) ?_
  obtain ⟨x48, e48, h3⟩ := bnd_e h3
  obtain ⟨p49, h3⟩ := asrt_e h3
  refine rse rfl rfl rfl (yl_appT (g := fI) (l := y3_5) (m := ([x47] : List Int)) .any rfl Tryz.underlying22 bz3 by3 rfl rfl rfl rfl rfl rfl rfl rfl rfl rfl (Eq.symm rfl) (.refl _) (fun _ => rfl) e48 p49) ?_; rintro _ _ ⟨v50, -, rfl, rfl⟩
  refine tr tbk 6 (.mk ?_)
  refine ni tbk h3 fun x51 h3 => ?_
  refine tr tbk 2 (.mk ?_)
  exact bk (x51, x40, x48) (v42, v50) h3 leA
  rintro ⟨y4_3, y4_4⟩ ⟨w4_1, w4_2⟩ h2
  replace h2 := p2_e h2
  refine c_drawE [0, 1, 0, 4, 15, 0, 32, 0, 128, 511, 127, 2047, 4095, 8191] (rl [(0, [2]), (1, [2]), (5, [2]), (6, [2]), (10, [2]), (12, [2])] []) (rl [(11, []), (13, [])] [2]) (rl [(4, false), (9, false), (11, false), (13, false)] true) [0, 1, 2, 3, 5, 6, 7, 8, 4, 10, 9, 11, 12, 13] mixed (by kernel_rfl) ?_; intro K hK
  refine eF fo25_3 ?_
  refine eL sh23 ?_
  refine eM ?_
  refine eP (fun H hH => yv_buildSlice (ps := [(0, _)]) (rows := [[.sl 7 w4_1 0 y4_3.length]]) rfl Tryz.underlying23 bz22 (.cons rfl .nil) (by kernel_rfl) rfl rfl rfl) ?_
  refine eF fo25_4 ?_
  refine eL sh23 ?_
  refine eM ?_
  refine eP (fun H hH => yv_buildSlice (ps := [(0, _)]) (rows := [[.sl 8 w4_2 0 y4_4.length]]) rfl Tryz.underlying23 bz22 (.cons rfl .nil) (by kernel_rfl) rfl rfl rfl) ?_
  obtain ⟨x52, e52, h2⟩ := bnd_e h2
  obtain ⟨p53, h2⟩ := asrt_e h2
  refine de_eff rfl rfl rfl rfl (Yield.frz 7 rfl (yl_appT (g := (fL 1 fI)) (l := y2_4) (m := [y4_3]) .any rfl Tryz.underlying23 bz22 by22 rfl rfl rfl rfl rfl rfl rfl rfl rfl rfl (Eq.symm rfl) (CvLL.list (.cons (.cons (cv_lst rfl rfl rfl rfl rfl (Eq.symm rfl)) .nil) .nil)) (fun _ => rfl) e52 p53)) (by rintro _ _ ⟨v54, -, rfl, rfl⟩; exact ⟨rfl, trivial⟩) ?_; rintro _ _ ⟨v54, -, rfl, rfl⟩
  refine eF fo25_3 ?_
  obtain ⟨x55, e55, h2⟩ := bnd_e h2
  obtain ⟨p56, h2⟩ := asrt_e h2
  refine de_eff rfl rfl rfl rfl (Yield.frz 8 rfl (yl_appT (g := (fL 1 fI)) (l := y2_5) (m := [y4_4]) .any rfl Tryz.underlying23 bz22 by22 rfl rfl rfl rfl rfl rfl rfl rfl rfl rfl (Eq.symm rfl) (CvLL.list (.cons (.cons (cv_lst rfl rfl rfl rfl rfl (Eq.symm rfl)) .nil) .nil)) (fun _ => rfl) e55 p56)) (by rintro _ _ ⟨v57, -, rfl, rfl⟩; exact ⟨rfl, trivial⟩) ?_; rintro _ _ ⟨v57, -, rfl, rfl⟩
  refine de_eff0 rfl rfl rfl rfl (Yield.weak (yl_ob (ob' := (⟨25, 5, true, true, v12, [[int x5, int x11, .sl 4 w1_1 0 y1_2.length, .sl 11 v54 0 x52.length, .sl 12 w2_3 0 y2_5.length]]⟩ : AObj)) (yl_store rfl sh23 rfl rfl rfl rfl rfl rfl rfl rfl rfl) rfl) (fun _ h => h) (fun _ _ => trivial)) (by rintro _ _ ⟨rfl, rfl⟩; exact trivial) ?_; rintro _ _ ⟨rfl, rfl⟩
  refine eF fo25_4 ?_
  refine de_eff0 rfl rfl rfl rfl (Yield.weak (yl_ob (ob' := (⟨25, 5, true, true, v12, [[int x5, int x11, .sl 4 w1_1 0 y1_2.length, .sl 11 v54 0 x52.length, .sl 12 v57 0 x55.length]]⟩ : AObj)) (yl_store rfl sh23 rfl rfl rfl rfl rfl rfl rfl rfl rfl) rfl) (fun _ h => h) (fun _ _ => trivial)) (by rintro _ _ ⟨rfl, rfl⟩; exact trivial) ?_; rintro _ _ ⟨rfl, rfl⟩
  refine de_nil (hK _ ?_)
  refine tc tbk 1 (.mk ?_)
  exact lf h2 (v54, v57) leA
  rintro ⟨y5_3, y5_4⟩ ⟨w5_1, w5_2⟩ h1
  replace h1 := p2_e h1
  refine tc tbk 2 (.mk ?_)
  refine ni tbk h1 fun x58 h1 => ?_
  refine tr tbk 2 (.mk ?_)
  exact bk (x58, y5_3, y5_4) (w5_1, w5_2) h1 leA
  rintro ⟨y6_3, y6_4⟩ ⟨w6_1, w6_2⟩ h0
  replace h0 := p2_e h0
  refine tc tbk 3 (.mk ?_)
  refine sS ⟨25, 5, true, true, v2, [[int x5, int x11, .sl 4 w1_1 0 y1_2.length, .sl 11 w6_1 0 y6_3.length, .sl 12 w6_2 0 y6_4.length]]⟩ sh25 ?_
  refine tr tbk 1 (.mk ?_)
  obtain rfl := nxt_e h0
  refine wR hret (rC sh25 .nil) ?_
  exact (CvL.agg (.cons (.refl _) (.cons (.refl _) (.cons (cv_lst rfl rfl rfl rfl rfl (Eq.symm rfl)) (.cons (cv_lst rfl rfl rfl rfl rfl (Eq.symm rfl)) (.cons (cv_lst rfl rfl rfl rfl rfl (Eq.symm rfl)) .nil))))))
def d_apply_All_L0 (a2 : List GOp) : Nat → Int → GState → (List Int) → Option (GState × (List Int))
  | 0, _, _, _ => none
  | n + 1, y0_2, y0_3, y0_4 =>
    bnd (decide (y0_2 < (a2.length : Int))) fun x7 =>
    cond x7 ((ix a2 y0_2).bind fun x8 =>
    (d_apply_Do n y0_3 x8).bind fun x10 =>
    bnd (y0_4 ++ ([x10.2] : List Int)) fun x12 =>
    asrt (x12.length ≤ 68719476736) <|
    bnd (w64 (y0_2 + 1)) fun x15 =>
    d_apply_All_L0 a2 n (x15 : Int) (x10.1 : GState) (x12 : List Int)) (some ((y0_3 : GState), (y0_4 : List Int)))
def d_apply_All (n : Nat) (a1 : GState) (a2 : List GOp) : Option (GState × (List Int)) :=
(show Option (GState × (List Int)) from
d_apply_All_L0 a2 n (0 : Int) (a1 : GState) (([] : List Int) : List Int)).bind <| p2 fun (y1_2 : GState) (y1_3 : List Int) =>
some ((y1_2 : GState), (y1_3 : List Int))
theorem d_apply_All_c {n : Nat} {a1 : GState} {a2 : List GOp} {r : GState × (List Int)} (h0 : d_apply_All n a1 a2 = some r) : PP Tryz.prog 21 [.agg (GState.av a1), lst 9 GOp.av a2] (fun y => y = .tup [.agg (GState.av r.1), lst 1 fI r.2]) := by
  unfold d_apply_All at h0
  refine pp_of_pc (R0 := fun y H => Cv (frzH H) y (.tup [.agg (GState.av r.1), lst 1 fI r.2])) ?_ (fun y H hc => ⟨_, rfl, .tup (pvl2 ((fun (a : GState) => PV.agg (GState.pvc a)) (r.1)) ((pvLs pvcI) (r.2))), hc⟩)
  refine pcw (c := _) Tryz.func21 rfl rfl ?_; intro Q hret hnorm
  refine tc tbk 2 (.mk ?_)
  refine sB 1 fun v3 => ?_
  refine sA 2 z31 fun v4 => ?_
  refine tr tbk 10 (.mk ?_)
  refine sY (yv_len_sl rfl Tryz.underlying62 rfl (lst_len _)) ?_
  refine tr tbk 2 (.mk ?_)
  refine jn h0 [2, 4, 5] [2] (fun (a : GState × (List Int)) (k : Nat) => [(6, .sl 6 k 0 a.2.length)]) (fun a k => [(1, ⟨31, 10, true, true, v3, [(GState.av a.1)]⟩), (6, ⟨33, 1, true, true, k, a.2.map fI⟩)]) ⟨fun j5 h1 => ?_, ?_⟩
  refine tc tbk 1 (.mk ?_)
  refine c_nilobj 6 6 33 1 rfl rfl ?_; intro v6
  refine lp (fun n (a : Int × GState × (List Int)) => d_apply_All_L0 a2 n a.1 a.2.1 a.2.2) ((0 : Int), (a1 : GState), (([] : List Int) : List Int)) v6 h1 [2, 4, 5, 11, 12] [2] (fun (a : Int × GState × (List Int)) (k : Nat) => [(6, .sl 6 k 0 a.2.2.length), (13, int a.1)]) (fun a k => [(1, ⟨31, 10, true, true, v3, [(GState.av a.2.1)]⟩), (6, ⟨33, 1, true, true, k, a.2.2.map fI⟩)]) (fun _ => rfl) ⟨leA, ?_⟩
  rintro n ⟨y0_2, y0_3, y0_4⟩ w0_1 hm h1
  replace h1 : d_apply_All_L0 a2 (n + 1) y0_2 y0_3 y0_4 = some _ := h1
  rw [d_apply_All_L0] at h1
  refine tc tbk 2 (.mk ?_)
  refine nb tbk h1 fun x7 h1 => ?_
  refine tr tbk 2 (.mk ?_)
  cases x7
  replace h1 := cf h1
  refine tc tbk 2 (.mk ?_)
  exact lf h1 w0_1 leA
  replace h1 := ct h1
  refine tc tbk 6 (.mk ?_)
  obtain ⟨x8, e8, h1⟩ := bind_e h1
  refine sY (yv_ixT rfl Tryz.underlying62 sh37 rfl rfl e8) ?_
  refine tr tbk 1 (.mk ?_)
  refine sA 3 z37 fun v9 => ?_
  refine sS ⟨37, 9, true, true, v9, [[int x8.Kind, int x8.E, int x8.Item, int x8.Loc, int x8.To, int x8.Qty, int x8.Amount, int x8.Ref, lst 1 fI x8.Refs]]⟩ sh37 ?_
  refine tr tbk 5 (.mk ?_)
  obtain ⟨x10, e10, h1⟩ := bind_e h1
  refine sC cal8 (d_apply_Do_c e10) ?_
  refine tr tbk 3 (.mk ?_)
  refine sA 4 z31 fun v11 => ?_
  refine sS ⟨31, 10, true, true, v11, [(GState.av x10.1)]⟩ sh31 ?_
  refine tr tbk 2 (.mk ?_)
  refine c_drawE [0, 0, 0, 4, 14, 31, 63] (rl [(0, [4])] []) (rl [(5, [])] [4]) (rl [(4, false), (5, false)] true) [0, 1, 2, 3, 4, 5, 6] mixed (by kernel_rfl) ?_; intro K hK
  refine eL sh31 ?_
  iterate 2 refine eM ?_
  refine eP (fun H hH => yv_to (y := lst 1 fI ([x10.2] : List Int)) (yv_buildSlice (ps := [(0, _)]) (rows := [[int x10.2]]) rfl Tryz.underlying69 bz33 (.cons rfl .nil) (by kernel_rfl) rfl rfl rfl) rfl) ?_
  obtain ⟨x12, e12, h1⟩ := bnd_e h1
  obtain ⟨p13, h1⟩ := asrt_e h1
  refine de_eff rfl rfl rfl rfl (yl_appT (g := fI) (l := y0_4) (m := ([x10.2] : List Int)) .any rfl Tryz.underlying69 bz33 by33 rfl rfl rfl rfl rfl rfl rfl rfl rfl rfl (Eq.symm rfl) (.refl _) (fun _ => rfl) e12 p13) (by rintro _ _ ⟨v14, -, rfl, rfl⟩; exact ⟨rfl, trivial⟩) ?_; rintro _ _ ⟨v14, -, rfl, rfl⟩
  refine de_eff0 rfl rfl rfl rfl (Yield.weak (yl_ob (ob' := (⟨31, 10, true, true, v3, [(GState.av x10.1)]⟩ : AObj)) (yl_store rfl sh31 rfl rfl rfl rfl rfl rfl rfl rfl rfl) rfl) (fun _ h => h) (fun _ _ => trivial)) (by rintro _ _ ⟨rfl, rfl⟩; exact trivial) ?_; rintro _ _ ⟨rfl, rfl⟩
  refine eA ?_
  refine de_nil (hK _ ?_)
  refine tc tbk 2 (.mk ?_)
  refine ni tbk h1 fun x15 h1 => ?_
  refine tr tbk 2 (.mk ?_)
  exact bk (x15, x10.1, x12) v14 h1 leA
  rintro ⟨y1_2, y1_3⟩ w1_1 h0
  replace h0 := p2_e h0
  refine tc tbk 4 (.mk ?_)
  refine sS ⟨31, 10, true, true, v4, [(GState.av y1_2)]⟩ sh31 ?_
  refine tr tbk 2 (.mk ?_)
  obtain rfl := nxt_e h0
  refine wR hret (rC sh31 (rT .nil)) ?_
  exact CvL.tup (.cons (.refl _) (.cons (cv_lst rfl rfl rfl rfl rfl (Eq.symm rfl)) .nil))
def d_law22_awake (n : Nat)  : Option (Bool) :=
(d_law00_Master n 0).bind fun x1 =>
(d_law00_State n x1 []).bind fun x2 =>
(d_apply_All n x2 [(⟨1, 0, 0, 0, 0, 5, 50, 0, []⟩ : GOp), (⟨4, 0, 0, 0, 0, 2, 30, 0, []⟩ : GOp), (⟨14, 0, 0, 0, 0, 0, 0, 0, []⟩ : GOp), (⟨4, 0, 0, 0, 0, 9, 0, 0, []⟩ : GOp)]).bind fun x4 =>
(show Option (Bool) from
bnd (decide ((x4.2.length : Int) = 4)) fun x7 =>
cond x7 ((ix x4.2 0).bind fun x8 =>
bnd (decide (x8 = 0)) fun x9 =>
cond x9 ((ix x4.2 1).bind fun x10 =>
bnd (decide (x10 = 0)) fun x11 =>
cond x11 ((ix x4.2 2).bind fun x12 =>
bnd (decide (x12 = 1)) fun x13 =>
cond x13 ((ix x4.2 3).bind fun x14 =>
bnd (decide (x14 = 5)) fun x15 =>
cond x15 (bnd (decide (x4.1.Done = 2)) fun x16 =>
cond x16 (bnd (decide ((x4.1.Receipts.length : Int) = 1)) fun x17 =>
cond x17 (bnd (decide ((x4.1.Sales.length : Int) = 1)) fun x18 =>
some (x18 : Bool)) (some (false : Bool))) (some (false : Bool))) (some (false : Bool))) (some (false : Bool))) (some (false : Bool))) (some (false : Bool))) (some (false : Bool))).bind <| fun y0_1 =>
some ((y0_1 : Bool))
theorem d_law22_awake_c {n : Nat}  {r : Bool} (h0 : d_law22_awake n  = some r) : PP Tryz.prog 10 [] (fun y => y = boo r) := by
  unfold d_law22_awake at h0
  refine pp_of_pc (R0 := fun y H => Cv (frzH H) y (boo r)) ?_ (fun y H hc => ⟨_, rfl, pvB r, hc⟩)
  refine pcw (c := _) Tryz.func10 rfl rfl ?_; intro Q hret hnorm
  refine tc tbk 6 (.mk ?_)
  obtain ⟨x1, e1, h0⟩ := bind_e h0
  refine sC cal20 (d_law00_Master_c e1) ?_
  obtain ⟨x2, e2, h0⟩ := bind_e h0
  refine sY (yv_callP rfl rfl (.cons rfl (.cons rfl .nil)) cal7 (.cons (.refl _) (.cons (.nil _) .nil)) (d_law00_State_c e2)) ?_
  refine sA 1 z31 fun v3 => ?_
  refine sS ⟨31, 10, true, true, v3, [(GState.av x2)]⟩ sh31 ?_
  refine tr tbk 4 (.mk ?_)
  refine sY (yv_build (cs := [int 1, int 0, int 0, int 0, int 0, int 5, int 50, int 0, .sc (.slice none 0 0)]) (ps := [(0, _), (5, _), (6, _)]) rfl pl37 z37 rfl (.cons rfl (.cons rfl (.cons rfl .nil))) (by kernel_rfl)) ?_
  refine sY (yv_build (cs := [int 4, int 0, int 0, int 0, int 0, int 2, int 30, int 0, .sc (.slice none 0 0)]) (ps := [(0, _), (5, _), (6, _)]) rfl pl37 z37 rfl (.cons rfl (.cons rfl (.cons rfl .nil))) (by kernel_rfl)) ?_
  refine sY (yv_build (cs := [int 14, int 0, int 0, int 0, int 0, int 0, int 0, int 0, .sc (.slice none 0 0)]) (ps := [(0, _)]) rfl pl37 z37 rfl (.cons rfl .nil) (by kernel_rfl)) ?_
  refine sY (yv_build (cs := [int 4, int 0, int 0, int 0, int 0, int 9, int 0, int 0, .sc (.slice none 0 0)]) (ps := [(0, _), (5, _)]) rfl pl37 z37 rfl (.cons rfl (.cons rfl .nil)) (by kernel_rfl)) ?_
  refine sY (yv_buildSlice (ps := [(0, _), (1, _), (2, _), (3, _)]) (rows := [[int 1, int 0, int 0, int 0, int 0, int 5, int 50, int 0, .sc (.slice none 0 0)], [int 4, int 0, int 0, int 0, int 0, int 2, int 30, int 0, .sc (.slice none 0 0)], [int 14, int 0, int 0, int 0, int 0, int 0, int 0, int 0, .sc (.slice none 0 0)], [int 4, int 0, int 0, int 0, int 0, int 9, int 0, int 0, .sc (.slice none 0 0)]]) rfl Tryz.underlying62 bz37 (.cons rfl (.cons rfl (.cons rfl (.cons rfl .nil)))) (by kernel_rfl) rfl rfl rfl) ?_
  obtain ⟨x4, e4, h0⟩ := bind_e h0
  refine sY (yv_callP rfl rfl (.cons rfl (.cons rfl .nil)) cal21 (.cons (.refl _) (.cons (CvLL.list (.cons (.cons (.refl _) (.cons (.refl _) (.cons (.refl _) (.cons (.refl _) (.cons (.refl _) (.cons (.refl _) (.cons (.refl _) (.cons (.refl _) (.cons (.nil _) .nil))))))))) (.cons (.cons (.refl _) (.cons (.refl _) (.cons (.refl _) (.cons (.refl _) (.cons (.refl _) (.cons (.refl _) (.cons (.refl _) (.cons (.refl _) (.cons (.nil _) .nil))))))))) (.cons (.cons (.refl _) (.cons (.refl _) (.cons (.refl _) (.cons (.refl _) (.cons (.refl _) (.cons (.refl _) (.cons (.refl _) (.cons (.refl _) (.cons (.nil _) .nil))))))))) (.cons (.cons (.refl _) (.cons (.refl _) (.cons (.refl _) (.cons (.refl _) (.cons (.refl _) (.cons (.refl _) (.cons (.refl _) (.cons (.refl _) (.cons (.nil _) .nil))))))))) .nil))))) .nil)) (d_apply_All_c e4)) ?_
  refine tr tbk 3 (.mk ?_)
  refine sA 2 z31 fun v5 => ?_
  refine sS ⟨31, 10, true, true, v5, [(GState.av x4.1)]⟩ sh31 ?_
  refine tr tbk 3 (.mk ?_)
  refine jn h0 [] [] (fun (a : Bool) (k : Unit) => [(0, boo a)]) (fun a k => []) ⟨fun j6 h1 => ?_, ?_⟩
  refine tc tbk 2 (.mk ?_)
  refine sY (yv_len_sl rfl Tryz.underlying69 rfl (lst_len _)) ?_
  refine nb tbk h1 fun x7 h1 => ?_
  refine tr tbk 1 (.mk ?_)
  cases x7
  replace h1 := cf h1
  refine tr tbk 42 (.mk ?_)
  exact lf h1 () leA
  replace h1 := ct h1
  refine tr tbk 1 (.mk ?_)
  obtain ⟨x8, e8, h1⟩ := bind_e h1
  refine sY (yv_ixT rfl Tryz.underlying69 sh33 rfl rfl e8) ?_
  refine tr tbk 1 (.mk ?_)
  refine nb tbk h1 fun x9 h1 => ?_
  refine tr tbk 2 (.mk ?_)
  cases x9
  replace h1 := cf h1
  refine tr tbk 36 (.mk ?_)
  exact lf h1 () leA
  replace h1 := ct h1
  refine tr tbk 1 (.mk ?_)
  obtain ⟨x10, e10, h1⟩ := bind_e h1
  refine sY (yv_ixT rfl Tryz.underlying69 sh33 rfl rfl e10) ?_
  refine tr tbk 1 (.mk ?_)
  refine nb tbk h1 fun x11 h1 => ?_
  refine tr tbk 2 (.mk ?_)
  cases x11
  replace h1 := cf h1
  refine tr tbk 30 (.mk ?_)
  exact lf h1 () leA
  replace h1 := ct h1
  refine tr tbk 1 (.mk ?_)
  obtain ⟨x12, e12, h1⟩ := bind_e h1
  refine sY (yv_ixT rfl Tryz.underlying69 sh33 rfl rfl e12) ?_
  refine tr tbk 1 (.mk ?_)
  refine nb tbk h1 fun x13 h1 => ?_
  refine tr tbk 2 (.mk ?_)
  cases x13
  replace h1 := cf h1
  refine tr tbk 24 (.mk ?_)
  exact lf h1 () leA
  replace h1 := ct h1
  refine tr tbk 1 (.mk ?_)
  obtain ⟨x14, e14, h1⟩ := bind_e h1
  refine sY (yv_ixT rfl Tryz.underlying69 sh33 rfl rfl e14) ?_
  refine tr tbk 1 (.mk ?_)
  refine nb tbk h1 fun x15 h1 => ?_
  refine tr tbk 2 (.mk ?_)
  cases x15
  replace h1 := cf h1
  refine tr tbk 18 (.mk ?_)
  exact lf h1 () leA
  replace h1 := ct h1
  refine tr tbk 2 (.mk ?_)
  refine nb tbk h1 fun x16 h1 => ?_
  refine tr tbk 2 (.mk ?_)
  cases x16
  replace h1 := cf h1
  refine tr tbk 13 (.mk ?_)
  exact lf h1 () leA
  replace h1 := ct h1
  refine tr tbk 2 (.mk ?_)
  refine sY (yv_len_sl rfl Tryz.underlying27 rfl (lst_len _)) ?_
  refine nb tbk h1 fun x17 h1 => ?_
  refine tr tbk 2 (.mk ?_)
  cases x17
  replace h1 := cf h1
  refine tr tbk 7 (.mk ?_)
  exact lf h1 () leA
  replace h1 := ct h1
  refine tr tbk 2 (.mk ?_)
  refine sY (yv_len_sl rfl Tryz.underlying28 rfl (lst_len _)) ?_
  refine nb tbk h1 fun x18 h1 => ?_
  refine tr tbk 3 (.mk ?_)
  exact lf h1 () leA
  rintro y0_1 _ h0
  obtain rfl := nxt_e h0
  refine wR hret (rT .nil) ?_
  exact .refl _
def d_law22_ApplyFull_L0 (x8 : GOp) (y0_1 : Int) : Nat → Int → GState → Option (GState)
  | 0, _, _ => none
  | n + 1, y1_1, y1_2 =>
    bnd (decide (y1_1 < y0_1)) fun x13 =>
    cond x13 ((d_apply_Do n y1_2 x8).bind fun x14 =>
    (show Option (Bool) from
    bnd (decide (x14.2 ≠ 0)) fun x17 =>
    cond x17 (some (true : Bool)) (bnd (w64 (y1_2.Done + 1)) fun x18 =>
    bnd (decide (x14.1.Done ≠ x18)) fun x19 =>
    some (x19 : Bool))).bind <| fun y2_1 =>
    asrt (y2_1 = false) <|
    bnd (w64 (y1_1 + 1)) fun x20 =>
    d_law22_ApplyFull_L0 x8 y0_1 n (x20 : Int) (x14.1 : GState)) (some (y1_2 : GState))
def d_law22_ApplyFull (n : Nat) (a1 : Int) : Option (Bool) :=
(d_law00_State n (⟨2, 1, ([1] : List Int), ([([2] : List Int), ([2] : List Int)] : List (List Int)), ([([0] : List Int), ([0] : List Int)] : List (List Int))⟩ : GMaster) []).bind fun x3 =>
(d_apply_Do n x3 (⟨1, 0, 0, 0, 0, 100, 1000, 0, []⟩ : GOp)).bind fun x5 =>
bnd (decide (x5.2 ≠ 0)) fun x6 =>
asrt (x6 = false) <|
(d_law00_Place a1 3).bind fun x7 =>
(ix ([(⟨1, 0, 0, 0, 0, 1, 1, 0, []⟩ : GOp), (⟨4, 0, 0, 0, 0, 1, 1, 0, []⟩ : GOp), (⟨12, 0, 0, 0, 1, 1, 1, 0, []⟩ : GOp)] : List GOp) x7).bind fun x8 =>
bnd (decide (x7 = 0)) fun x10 =>
(show Option (Int) from
cond x10 (some (39 : Int)) (some (40 : Int))).bind <| fun y0_1 =>
(show Option (GState) from
d_law22_ApplyFull_L0 x8 y0_1 n (0 : Int) (x5.1 : GState)).bind <| fun y3_1 =>
(d_apply_Do n y3_1 x8).bind fun x21 =>
(show Option (Bool) from
bnd (decide (x21.2 = 6)) fun x24 =>
cond x24 (bnd (decide (x21.1.Done = y3_1.Done)) fun x25 =>
cond x25 (bnd (w64 (y0_1 + 1)) fun x26 =>
bnd (decide (y3_1.Done = x26)) fun x27 =>
cond x27 (bnd (w64 ((x21.1.Receipts.length : Int) + (x21.1.Sales.length : Int))) fun x28 =>
bnd (w64 (x28 + (x21.1.Transits.length : Int))) fun x29 =>
bnd (w64 ((y3_1.Receipts.length : Int) + (y3_1.Sales.length : Int))) fun x30 =>
bnd (w64 (x30 + (y3_1.Transits.length : Int))) fun x31 =>
bnd (decide (x29 = x31)) fun x32 =>
cond x32 ((d_law22_awake n).bind fun x33 =>
some (x33 : Bool)) (some (false : Bool))) (some (false : Bool))) (some (false : Bool))) (some (false : Bool))).bind <| fun y4_1 =>
some ((y4_1 : Bool))
theorem d_law22_ApplyFull_c {n : Nat} {a1 : Int} {r : Bool} (h0 : d_law22_ApplyFull n a1 = some r) : PP Tryz.prog 3 [int a1] (fun y => y = boo r) := by
  unfold d_law22_ApplyFull at h0
  refine pp_of_pc (R0 := fun y H => Cv (frzH H) y (boo r)) ?_ (fun y H hc => ⟨_, rfl, pvB r, hc⟩)
  refine pcw (c := _) Tryz.func3 rfl rfl ?_; intro Q hret hnorm
  refine tc tbk 6 (.mk ?_)
  refine sY (yv_to (y := lst 1 fI ([1] : List Int)) (yv_buildSlice (ps := [(0, _)]) (rows := [[int 1]]) rfl Tryz.underlying22 bz3 (.cons rfl .nil) (by kernel_rfl) rfl rfl rfl) rfl) ?_
  refine sY (yv_to (y := lst 1 fI ([2] : List Int)) (yv_buildSlice (ps := [(0, _)]) (rows := [[int 2]]) rfl Tryz.underlying22 bz3 (.cons rfl .nil) (by kernel_rfl) rfl rfl rfl) rfl) ?_
  refine sY (yv_to (y := lst 1 fI ([2] : List Int)) (yv_buildSlice (ps := [(0, _)]) (rows := [[int 2]]) rfl Tryz.underlying22 bz3 (.cons rfl .nil) (by kernel_rfl) rfl rfl rfl) rfl) ?_
  refine sY (yv_to (y := lst 1 (fL 1 fI) ([([2] : List Int), ([2] : List Int)] : List (List Int))) (yv_buildSlice (ps := [(0, _), (1, _)]) (rows := [[lst 1 fI ([2] : List Int)], [lst 1 fI ([2] : List Int)]]) rfl Tryz.underlying23 bz22 (.cons rfl (.cons rfl .nil)) (by kernel_rfl) rfl rfl rfl) rfl) ?_
  refine sY (yv_to (y := lst 1 fI ([0] : List Int)) (yv_buildSlice (ps := [(0, _)]) (rows := [[int 0]]) rfl Tryz.underlying22 bz3 (.cons rfl .nil) (by kernel_rfl) rfl rfl rfl) rfl) ?_
  refine sY (yv_to (y := lst 1 fI ([0] : List Int)) (yv_buildSlice (ps := [(0, _)]) (rows := [[int 0]]) rfl Tryz.underlying22 bz3 (.cons rfl .nil) (by kernel_rfl) rfl rfl rfl) rfl) ?_
  refine sY (yv_to (y := lst 1 (fL 1 fI) ([([0] : List Int), ([0] : List Int)] : List (List Int))) (yv_buildSlice (ps := [(0, _), (1, _)]) (rows := [[lst 1 fI ([0] : List Int)], [lst 1 fI ([0] : List Int)]]) rfl Tryz.underlying23 bz22 (.cons rfl (.cons rfl .nil)) (by kernel_rfl) rfl rfl rfl) rfl) ?_
  refine sY (yv_build (cs := [int 2, int 1, lst 1 fI ([1] : List Int), lst 1 (fL 1 fI) ([([2] : List Int), ([2] : List Int)] : List (List Int)), lst 1 (fL 1 fI) ([([0] : List Int), ([0] : List Int)] : List (List Int))]) (ps := [(0, _), (1, _), (2, _), (3, _), (4, _)]) rfl pl25 z25 rfl (.cons rfl (.cons rfl (.cons rfl (.cons rfl (.cons rfl .nil))))) (by kernel_rfl)) ?_
  refine sA 1 z25 fun v2 => ?_
  refine sS ⟨25, 5, true, true, v2, [[int 2, int 1, lst 1 fI ([1] : List Int), lst 1 (fL 1 fI) ([([2] : List Int), ([2] : List Int)] : List (List Int)), lst 1 (fL 1 fI) ([([0] : List Int), ([0] : List Int)] : List (List Int))]]⟩ sh25 ?_
  refine tr tbk 4 (.mk ?_)
  obtain ⟨x3, e3, h0⟩ := bind_e h0
  refine sY (yv_callP rfl rfl (.cons rfl (.cons rfl .nil)) cal7 (.cons (.refl _) (.cons (.nil _) .nil)) (d_law00_State_c e3)) ?_
  refine sA 2 z31 fun v4 => ?_
  refine sS ⟨31, 10, true, true, v4, [(GState.av x3)]⟩ sh31 ?_
  refine tr tbk 4 (.mk ?_)
  refine sY (yv_build (cs := [int 1, int 0, int 0, int 0, int 0, int 100, int 1000, int 0, .sc (.slice none 0 0)]) (ps := [(0, _), (5, _), (6, _)]) rfl pl37 z37 rfl (.cons rfl (.cons rfl (.cons rfl .nil))) (by kernel_rfl)) ?_
  obtain ⟨x5, e5, h0⟩ := bind_e h0
  refine sY (yv_callP rfl rfl (.cons rfl (.cons rfl .nil)) cal8 (.cons (.refl _) (.cons (CvL.agg (.cons (.refl _) (.cons (.refl _) (.cons (.refl _) (.cons (.refl _) (.cons (.refl _) (.cons (.refl _) (.cons (.refl _) (.cons (.refl _) (.cons (.nil _) .nil)))))))))) .nil)) (d_apply_Do_c e5)) ?_
  refine tr tbk 3 (.mk ?_)
  refine sS ⟨31, 10, true, true, v4, [(GState.av x5.1)]⟩ sh31 ?_
  refine tr tbk 6 (.mk ?_)
  refine nb tbk h0 fun x6 h0 => ?_
  refine tr tbk 1 (.mk ?_)
  replace h0 := asrt_e h0
  obtain ⟨rfl, h0⟩ := h0
  refine tc tbk 5 (.mk ?_)
  obtain ⟨x7, e7, h0⟩ := bind_e h0
  refine sC cal9 (d_law00_Place_c e7) ?_
  refine tr tbk 4 (.mk ?_)
  refine sY (yv_build (cs := [int 1, int 0, int 0, int 0, int 0, int 1, int 1, int 0, .sc (.slice none 0 0)]) (ps := [(0, _), (5, _), (6, _)]) rfl pl37 z37 rfl (.cons rfl (.cons rfl (.cons rfl .nil))) (by kernel_rfl)) ?_
  refine sY (yv_build (cs := [int 4, int 0, int 0, int 0, int 0, int 1, int 1, int 0, .sc (.slice none 0 0)]) (ps := [(0, _), (5, _), (6, _)]) rfl pl37 z37 rfl (.cons rfl (.cons rfl (.cons rfl .nil))) (by kernel_rfl)) ?_
  refine sY (yv_build (cs := [int 12, int 0, int 0, int 0, int 1, int 1, int 1, int 0, .sc (.slice none 0 0)]) (ps := [(0, _), (4, _), (5, _), (6, _)]) rfl pl37 z37 rfl (.cons rfl (.cons rfl (.cons rfl (.cons rfl .nil)))) (by kernel_rfl)) ?_
  refine sY (yv_buildA (cs := [int 1, int 0, int 0, int 0, int 0, int 1, int 1, int 0, .sc (.slice none 0 0), int 4, int 0, int 0, int 0, int 0, int 1, int 1, int 0, .sc (.slice none 0 0), int 12, int 0, int 0, int 0, int 1, int 1, int 1, int 0, .sc (.slice none 0 0)]) (ps := [(0, _), (1, _), (2, _)]) rfl Tryz.underlying39 sh37 z39 rfl (.cons rfl (.cons rfl (.cons rfl .nil))) (by kernel_rfl)) ?_
  refine tr tbk 1 (.mk ?_)
  obtain ⟨x8, e8, h0⟩ := bind_e h0
  refine rs_cv 37 (.agg [int 1, int 0, int 0, int 0, int 0, int 1, int 1, int 0, lst 1 fI [], int 4, int 0, int 0, int 0, int 0, int 1, int 1, int 0, lst 1 fI [], int 12, int 0, int 0, int 0, int 1, int 1, int 1, int 0, lst 1 fI []]) rfl (CvL.agg (.cons (.refl _) (.cons (.refl _) (.cons (.refl _) (.cons (.refl _) (.cons (.refl _) (.cons (.refl _) (.cons (.refl _) (.cons (.refl _) (.cons (.nil _) (.cons (.refl _) (.cons (.refl _) (.cons (.refl _) (.cons (.refl _) (.cons (.refl _) (.cons (.refl _) (.cons (.refl _) (.cons (.refl _) (.cons (.nil _) (.cons (.refl _) (.cons (.refl _) (.cons (.refl _) (.cons (.refl _) (.cons (.refl _) (.cons (.refl _) (.cons (.refl _) (.cons (.refl _) (.cons (.nil _) .nil)))))))))))))))))))))))))))) ?_
  refine sY (yv_indexAT (g := GOp.av) (l := ([(⟨1, 0, 0, 0, 0, 1, 1, 0, []⟩ : GOp), (⟨4, 0, 0, 0, 0, 1, 1, 0, []⟩ : GOp), (⟨12, 0, 0, 0, 1, 1, 1, 0, []⟩ : GOp)] : List GOp)) (v := x8) (w := .agg [int x8.Kind, int x8.E, int x8.Item, int x8.Loc, int x8.To, int x8.Qty, int x8.Amount, int x8.Ref, lst 1 fI x8.Refs]) rfl Tryz.underlying39 sh37 rfl rfl rfl e8 (fun _ => rfl) (hwn rfl)) ?_
  refine sA 3 z37 fun v9 => ?_
  refine sS ⟨37, 9, true, true, v9, [[int x8.Kind, int x8.E, int x8.Item, int x8.Loc, int x8.To, int x8.Qty, int x8.Amount, int x8.Ref, lst 1 fI x8.Refs]]⟩ sh37 ?_
  refine tr tbk 9 (.mk ?_)
  refine nb tbk h0 fun x10 h0 => ?_
  refine tr tbk 1 (.mk ?_)
  refine jn h0 [2, 4, 7] [2, 3] (fun (a : Int) (k : Unit) => [(8, int a)]) (fun a k => []) ⟨fun j11 h1 => ?_, ?_⟩
  cases x10
  replace h1 := cf h1
  refine tc tbk 2 (.mk ?_)
  exact lf h1 () leA
  replace h1 := ct h1
  refine tc tbk 3 (.mk ?_)
  refine sY (yv_sub (r := 39) rfl rfl rfl (by decide)) ?_
  refine tr tbk 2 (.mk ?_)
  exact lf h1 () leA
  rintro y0_1 _ h0
  refine tc tbk 5 (.mk ?_)
  refine jn h0 [2, 4, 7, 8] [3] (fun (a : GState) (k : Unit) => []) (fun a k => [(2, ⟨31, 10, true, true, v4, [(GState.av a)]⟩)]) ⟨fun j12 h1 => ?_, ?_⟩
  refine tc tbk 1 (.mk ?_)
  refine lp (fun n (a : Int × GState) => d_law22_ApplyFull_L0 x8 y0_1 n a.1 a.2) ((0 : Int), (x5.1 : GState)) () h1 [2, 4, 7, 8] [3] (fun (a : Int × GState) (k : Unit) => [(9, int a.1)]) (fun a k => [(2, ⟨31, 10, true, true, v4, [(GState.av a.2)]⟩)]) (fun _ => rfl) ⟨leA, ?_⟩
  rintro n ⟨y1_1, y1_2⟩ _ hm h1
  replace h1 : d_law22_ApplyFull_L0 x8 y0_1 (n + 1) y1_1 y1_2 = some _ := h1
  rw [d_law22_ApplyFull_L0] at h1
  refine tc tbk 5 (.mk ?_)
  refine nb tbk h1 fun x13 h1 => ?_
  refine tr tbk 1 (.mk ?_)
  cases x13
  replace h1 := cf h1
  refine tc tbk 2 (.mk ?_)
  exact lf h1 () leA
  replace h1 := ct h1
  refine tc tbk 8 (.mk ?_)
  obtain ⟨x14, e14, h1⟩ := bind_e h1
  refine sC cal8 (d_apply_Do_c e14) ?_
  refine tr tbk 3 (.mk ?_)
  refine sA 4 z31 fun v15 => ?_
  refine sS ⟨31, 10, true, true, v15, [(GState.av x14.1)]⟩ sh31 ?_
  refine tr tbk 4 (.mk ?_)
  refine jn h1 [2, 4, 7, 8, 9, 10] [2, 3, 4] (fun (a : Bool) (k : Unit) => [(64, boo a)]) (fun a k => []) ⟨fun j16 h2 => ?_, ?_⟩
  refine tc tbk 2 (.mk ?_)
  refine nb tbk h2 fun x17 h2 => ?_
  refine tr tbk 1 (.mk ?_)
  cases x17
  replace h2 := cf h2
  refine tr tbk 4 (.mk ?_)
  refine ni tbk h2 fun x18 h2 => ?_
  refine nb tbk h2 fun x19 h2 => ?_
  refine tr tbk 2 (.mk ?_)
  exact lf h2 () leA
  replace h2 := ct h2
  refine tr tbk 8 (.mk ?_)
  exact lf h2 () leA
  rintro y2_1 _ h1
  replace h1 := asrt_e h1
  obtain ⟨rfl, h1⟩ := h1
  refine tc tbk 4 (.mk ?_)
  refine sS ⟨31, 10, true, true, v4, [(GState.av x14.1)]⟩ sh31 ?_
  refine tr tbk 4 (.mk ?_)
  refine ni tbk h1 fun x20 h1 => ?_
  refine tr tbk 2 (.mk ?_)
  exact bk (x20, x14.1) () h1 leA
  rintro y3_1 _ h0
  refine tc tbk 4 (.mk ?_)
  obtain ⟨x21, e21, h0⟩ := bind_e h0
  refine sC cal8 (d_apply_Do_c e21) ?_
  refine tr tbk 3 (.mk ?_)
  refine sA 5 z31 fun v22 => ?_
  refine sS ⟨31, 10, true, true, v22, [(GState.av x21.1)]⟩ sh31 ?_
  refine tr tbk 3 (.mk ?_)
  refine jn h0 [] [] (fun (a : Bool) (k : Unit) => [(2, boo a)]) (fun a k => []) ⟨fun j23 h1 => ?_, ?_⟩
  refine tc tbk 2 (.mk ?_)
  refine nb tbk h1 fun x24 h1 => ?_
  refine tr tbk 1 (.mk ?_)
  cases x24
  replace h1 := cf h1
  refine tr tbk 43 (.mk ?_)
  exact lf h1 () leA
  replace h1 := ct h1
  refine tr tbk 4 (.mk ?_)
  refine nb tbk h1 fun x25 h1 => ?_
  refine tr tbk 2 (.mk ?_)
  cases x25
  replace h1 := cf h1
  refine tr tbk 36 (.mk ?_)
  exact lf h1 () leA
  replace h1 := ct h1
  refine tr tbk 3 (.mk ?_)
  refine ni tbk h1 fun x26 h1 => ?_
  refine nb tbk h1 fun x27 h1 => ?_
  refine tr tbk 2 (.mk ?_)
  cases x27
  replace h1 := cf h1
  refine tr tbk 29 (.mk ?_)
  exact lf h1 () leA
  replace h1 := ct h1
  refine tr tbk 2 (.mk ?_)
  refine sY (yv_len_sl rfl Tryz.underlying27 rfl (lst_len _)) ?_
  refine tr tbk 2 (.mk ?_)
  refine sY (yv_len_sl rfl Tryz.underlying28 rfl (lst_len _)) ?_
  refine ni tbk h1 fun x28 h1 => ?_
  refine tr tbk 2 (.mk ?_)
  refine sY (yv_len_sl rfl Tryz.underlying29 rfl (lst_len _)) ?_
  refine ni tbk h1 fun x29 h1 => ?_
  refine tr tbk 2 (.mk ?_)
  refine sY (yv_len_sl rfl Tryz.underlying27 rfl (lst_len _)) ?_
  refine tr tbk 2 (.mk ?_)
  refine sY (yv_len_sl rfl Tryz.underlying28 rfl (lst_len _)) ?_
  refine ni tbk h1 fun x30 h1 => ?_
  refine tr tbk 2 (.mk ?_)
  refine sY (yv_len_sl rfl Tryz.underlying29 rfl (lst_len _)) ?_
  refine ni tbk h1 fun x31 h1 => ?_
  refine nb tbk h1 fun x32 h1 => ?_
  refine tr tbk 2 (.mk ?_)
  cases x32
  replace h1 := cf h1
  refine tr tbk 4 (.mk ?_)
  exact lf h1 () leA
  replace h1 := ct h1
  obtain ⟨x33, e33, h1⟩ := bind_e h1
  refine sC cal10 (d_law22_awake_c e33) ?_
  refine tr tbk 3 (.mk ?_)
  exact lf h1 () leA
  rintro y4_1 _ h0
  obtain rfl := nxt_e h0
  refine wR hret (rT .nil) ?_
  exact .refl _
end Go.Pv
