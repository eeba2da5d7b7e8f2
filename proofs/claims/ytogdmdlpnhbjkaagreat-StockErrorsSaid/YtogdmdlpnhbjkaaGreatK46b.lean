import Derived.Test.YtogdmdlpnhbjkaaGreatK46
set_option linter.unusedVariables false
namespace Go.Pv
open Go.Proofs
set_option maxRecDepth 10000
set_option maxHeartbeats 1000000
def d_stdcost_Out_L0 (a1 : List GLayer) : Nat → Nat → Nat → Int → GLayer → Option (Nat × Nat × GLayer)
  | 0, _, _, _, _ => none
  | n + 1, y1_1, y1_2, y1_3, y1_4 =>
    (show Option (Bool) from
    bnd (decide ((y1_2 : Int) > 0)) fun x21 =>
    cond x21 (bnd (decide (y1_3 > 0)) fun x22 =>
    some (x22 : Bool)) (some (false : Bool))).bind <| fun y2_1 =>
    cond y2_1 (asrt ((0 : Int) ≤ 0 ∧ 0 < (y1_2 : Int)) <|
    (ix a1 (((y1_1 : Nat) : Int) + 0)).bind fun x24 =>
    bnd (decide (x24.Qty > y1_3)) fun x26 =>
    asrt (x26 = false) <|
    asrt ((0 : Int) ≤ 1 ∧ 1 ≤ (y1_2 : Int) ∧ (y1_2 : Int) ≤ (y1_2 : Int) ∧ 1 < (y1_2 + 1 : Int)) <|
    bnd (if (Int.toNat (y1_2 : Int)) = 1 then y1_1 else y1_1 + 1) fun x28 =>
    bnd (w64 (y1_4.Qty + x24.Qty)) fun x29 =>
    bnd (w64 (y1_4.Value + x24.Value)) fun x30 =>
    bnd (w64 (y1_4.Profit + x24.Profit)) fun x31 =>
    bnd (w64 (y1_3 - x24.Qty)) fun x32 =>
    d_stdcost_Out_L0 a1 n (x28 : Nat) (((Int.toNat (y1_2 : Int)) - 1) : Nat) (x32 : Int) ((⟨x29, x30, x31⟩ : GLayer) : GLayer)) (some ((y1_1 : Nat), (y1_2 : Nat), (y1_4 : GLayer)))
def d_stdcost_Out (n : Nat) (a1 : List GLayer) (a2 : Int) (a3 : Int) : Option ((List GLayer) × GLayer × Int) :=
(d_stdcost_rate_fits a3).bind fun x5 =>
bnd (!x5) fun x6 =>
asrt (x6 = false) <|
(show Option ((Nat × Nat × GLayer × Int)) from
(show Option ((Unit)) from
some ()).bind <| fun _ =>
(show Option ((Nat × Nat × GLayer × Int)) from
asrt (a1.length ≤ 68719476736) <|
bnd (decide (a2 < 1)) fun x15 =>
asrt (x15 = false) <|
(d_fifo_has n a1 a2).bind fun x16 =>
bnd (!x16) fun x17 =>
cond x17 (some ((0 : Nat), (a1.length : Nat), ((⟨0, 0, 0⟩ : GLayer) : GLayer), (5 : Int))) ((show Option (Nat × Nat × GLayer) from
d_stdcost_Out_L0 a1 n (0 : Nat) (a1.length : Nat) (a2 : Int) ((⟨0, 0, 0⟩ : GLayer) : GLayer)).bind <| p2 fun (y3_1 : Nat) (q0 : Nat × GLayer) => (p2 fun (y3_2 : Nat) (y3_3 : GLayer) =>
some ((y3_1 : Nat), (y3_2 : Nat), (y3_3 : GLayer), (0 : Int))) q0)).bind <| p2 fun (y4_2 : Nat) (q0 : Nat × GLayer × Int) => (p2 fun (y4_3 : Nat) (q1 : GLayer × Int) => (p2 fun (y4_4 : GLayer) (y4_5 : Int) =>
some ((y4_2 : Nat), (y4_3 : Nat), (y4_4 : GLayer), (y4_5 : Int))) q1) q0).bind <| p2 fun (y5_2 : Nat) (q0 : Nat × GLayer × Int) => (p2 fun (y5_3 : Nat) (q1 : GLayer × Int) => (p2 fun (y5_4 : GLayer) (y5_5 : Int) =>
(show Option (Bool) from
bnd (decide (y5_5 ≠ 0)) fun x35 =>
cond x35 (some (true : Bool)) (bnd (decide ((y5_3 : Int) = 0)) fun x36 =>
some (x36 : Bool))).bind <| fun y6_1 =>
asrt (y6_1 = true) <|
asrt (y5_2 + y5_3 ≤ a1.length) <|
some (((((a1).drop y5_2).take y5_3) : List GLayer), (y5_4 : GLayer), (y5_5 : Int))) q1) q0
theorem d_stdcost_Out_c {n : Nat} {a1 : List GLayer} {a2 : Int} {a3 : Int} {r : (List GLayer) × GLayer × Int} (h0 : d_stdcost_Out n a1 a2 a3 = some r) : PP Tryz.prog 238 [lst 3 GLayer.av a1, int a2, int a3] (fun y => y = .tup [lst 3 GLayer.av r.1, .agg (GLayer.av r.2.1), int r.2.2]) := by
  unfold d_stdcost_Out at h0
  refine pp_of_pc (R0 := fun y H => Cv (frzH H) y (.tup [lst 3 GLayer.av r.1, .agg (GLayer.av r.2.1), int r.2.2])) ?_ (fun y H hc => ⟨_, rfl, .tup (pvl3 ((pvLs GLayer.pvc) (r.1)) ((fun (a : GLayer) => PV.agg (GLayer.pvc a)) (r.2.1)) (pvI (r.2.2))), hc⟩)
  refine pcw (c := _) Tryz.func238 rfl rfl ?_; intro Q hret hnorm
  refine tc tbk 3 (.mk ?_)
  refine sA 1 z38 fun v4 => ?_
  refine tr tbk 6 (.mk ?_)
  obtain ⟨x5, e5, h0⟩ := bind_e h0
  refine sC cal239 (d_stdcost_rate_fits_c e5) ?_
  refine nb tbk h0 fun x6 h0 => ?_
  refine tr tbk 1 (.mk ?_)
  replace h0 := asrt_e h0
  obtain ⟨rfl, h0⟩ := h0
  refine tc tbk 6 (.mk ?_)
  obtain ⟨j7, h1, h0⟩ := bind_e h0
  refine rse (Out := fun y H' => (∃ (a : Nat × Nat × GLayer × Int) (k : Nat), a = j7 ∧ y = .tup [.sl 5 k a.1 a.2.1, .agg [int a.2.2.1.Qty, int a.2.2.1.Value, int a.2.2.1.Profit], int a.2.2.2] ∧ H' = hk [(1, ⟨38, 3, true, true, v4, [[int 0, int 0, int 0]]⟩), (5, ⟨38, 3, true, true, k, a1.map GLayer.av⟩)])) rfl rfl rfl (yl_call rfl rfl (.cons rfl (.cons rfl .nil)) cal229 ?_) ?_
  refine pcw (c := _) Tryz.func229 rfl rfl ?_; intro Q hret hnorm
  refine tc tbk 3 (.mk ?_)
  refine sA 2 z38 fun v8 => ?_
  refine tr tbk 4 (.mk ?_)
  obtain ⟨j9, h2, h1⟩ := bind_e h1
  refine rse (Out := fun y H' => (∃ (a : Unit) (k : Unit), a = j9 ∧ y = .agg [.fn (.func 217) [] [], .fn (.func 218) [] [], .fn (.func 46) [] []] ∧ H' = hk [(1, ⟨38, 3, true, true, v4, [[int 0, int 0, int 0]]⟩), (2, ⟨38, 3, true, true, v8, [[int 0, int 0, int 0]]⟩)])) rfl rfl rfl (yl_call rfl rfl .nil cal230 ?_) ?_
  refine pcw (c := _) Tryz.func230 rfl rfl ?_; intro Q hret hnorm
  refine tc tbk 2 (.mk ?_)
  refine sA 3 z251 fun v10 => ?_
  refine tr tbk 4 (.mk ?_)
  refine sS ⟨251, 3, true, true, v10, [[.fn (.func 217) [] [], .fn (.func 218) [] [], .fn (.func 46) [] []]]⟩ sh251 ?_
  refine tr tbk 1 (.mk ?_)
  obtain rfl := nxt_e h2
  refine w_ret (hret _ _ (hk [(1, ⟨38, 3, true, true, v4, [[int 0, int 0, int 0]]⟩), (2, ⟨38, 3, true, true, v8, [[int 0, int 0, int 0]]⟩)]) (.cell rfl (.pt rfl rfl rfl) sh251 rfl .nil) (HK.le ⟨rfl, rfl, trivial⟩) ?_)
  exact ⟨(), (), rfl, rfl, rfl⟩
  rintro y _ ⟨_, _, rfl, hc, rfl⟩
  subst hc
  refine tr tbk 3 (.mk ?_)
  obtain ⟨j11, h2, h1⟩ := bind_e h1
  refine rse (Out := fun y H' => (∃ (a : Nat × Nat × GLayer × Int) (k : Nat), a = j11 ∧ y = .tup [.sl 5 k a.1 a.2.1, .agg [int a.2.2.1.Qty, int a.2.2.1.Value, int a.2.2.1.Profit], int a.2.2.2] ∧ H' = hk [(1, ⟨38, 3, true, true, v4, [[int 0, int 0, int 0]]⟩), (2, ⟨38, 3, true, true, v8, [[int 0, int 0, int 0]]⟩), (5, ⟨38, 3, true, true, k, a1.map GLayer.av⟩)])) rfl rfl rfl (yl_call rfl rfl (.cons rfl (.cons rfl .nil)) cal218 ?_) ?_
  refine pcw (c := _) Tryz.func218 rfl rfl ?_; intro Q hret hnorm
  refine tc tbk 3 (.mk ?_)
  refine sA 4 z38 fun v12 => ?_
  refine tr tbk 5 (.mk ?_)
  obtain ⟨p13, h2⟩ := asrt_e h2
  refine rse rfl rfl rfl (yl_call rfl rfl (.cons rfl .nil) cal29 (pc_cv (clone29_c (id := 5) (l := a1) rfl p13) (.cons (.refl _) .nil))) ?_; rintro _ _ ⟨v14, rfl, rfl⟩
  refine tr tbk 6 (.mk ?_)
  refine nb tbk h2 fun x15 h2 => ?_
  refine tr tbk 1 (.mk ?_)
  replace h2 := asrt_e h2
  obtain ⟨rfl, h2⟩ := h2
  refine tc tbk 7 (.mk ?_)
  obtain ⟨x16, e16, h2⟩ := bind_e h2
  refine sY (yv_callT (v := boo x16) rfl rfl (.cons rfl (.cons rfl .nil)) cal219 (.cons (cv_lst rfl rfl rfl rfl rfl (Eq.symm rfl)) (.cons (.refl _) .nil)) (d_fifo_has_c e16) rfl) ?_
  refine nb tbk h2 fun x17 h2 => ?_
  refine tr tbk 1 (.mk ?_)
  cases x17
  replace h2 := cf h2
  refine tc tbk 4 (.mk ?_)
  refine sA 6 z38 fun v18 => ?_
  refine tr tbk 2 (.mk ?_)
  refine jn h2 [4, 5, 6, 7] [1, 2, 4, 5] (fun (a : Nat × Nat × GLayer) (k : Unit) => [(0, .sl 5 v14 a.1 a.2.1)]) (fun a k => [(6, ⟨38, 3, true, true, v18, [[int a.2.2.Qty, int a.2.2.Value, int a.2.2.Profit]]⟩)]) ⟨fun j19 h3 => ?_, ?_⟩
  refine tc tbk 1 (.mk ?_)
  refine lp (fun n (a : Nat × Nat × Int × GLayer) => d_stdcost_Out_L0 a1 n a.1 a.2.1 a.2.2.1 a.2.2.2) ((0 : Nat), (a1.length : Nat), (a2 : Int), ((⟨0, 0, 0⟩ : GLayer) : GLayer)) () h3 [4, 5, 6, 7] [1, 2, 4, 5] (fun (a : Nat × Nat × Int × GLayer) (k : Unit) => [(0, .sl 5 v14 a.1 a.2.1), (1, int a.2.2.1)]) (fun a k => [(6, ⟨38, 3, true, true, v18, [[int a.2.2.2.Qty, int a.2.2.2.Value, int a.2.2.2.Profit]]⟩)]) (fun _ => rfl) ⟨leA, ?_⟩
  rintro n ⟨y1_1, y1_2, y1_3, y1_4⟩ _ hm h3
  replace h3 : d_stdcost_Out_L0 a1 (n + 1) y1_1 y1_2 y1_3 y1_4 = some _ := h3
  rw [d_stdcost_Out_L0] at h3
  refine tc tbk 2 (.mk ?_)
  refine jn h3 [0, 1, 4, 5, 6, 7] [1, 2, 4, 5, 6] (fun (a : Bool) (k : Unit) => [(27, boo a)]) (fun a k => []) ⟨fun j20 h4 => ?_, ?_⟩
  refine tc tbk 2 (.mk ?_)
  refine sY (yv_len_sl rfl Tryz.underlying43 rfl (.sl rfl rfl)) ?_
  refine nb tbk h4 fun x21 h4 => ?_
  refine tr tbk 1 (.mk ?_)
  cases x21
  replace h4 := cf h4
  refine tr tbk 4 (.mk ?_)
  exact lf h4 () leA
  replace h4 := ct h4
  refine tr tbk 1 (.mk ?_)
  refine nb tbk h4 fun x22 h4 => ?_
  refine tr tbk 2 (.mk ?_)
  exact lf h4 () leA
  rintro y2_1 _ h3
  cases y2_1
  replace h3 := cf h3
  refine tc tbk 2 (.mk ?_)
  exact lf h3 () leA
  replace h3 := ct h3
  refine tc tbk 6 (.mk ?_)
  obtain ⟨p23, h3⟩ := asrt_e h3
  obtain ⟨x24, e24, h3⟩ := bind_e h3
  refine sY (yv_ixW rfl Tryz.underlying43 sh38 rfl rfl rfl rfl rfl p23 (List.length_map _) e24) ?_
  refine sY (yv_load rfl sh38 rfl (.pt rfl rfl (ix_get e24)) rfl) ?_
  refine sA 7 z38 fun v25 => ?_
  refine sS ⟨38, 3, true, true, v25, [[int x24.Qty, int x24.Value, int x24.Profit]]⟩ sh38 ?_
  refine tr tbk 7 (.mk ?_)
  refine nb tbk h3 fun x26 h3 => ?_
  refine tr tbk 1 (.mk ?_)
  replace h3 := asrt_e h3
  obtain ⟨rfl, h3⟩ := h3
  refine tc tbk 4 (.mk ?_)
  refine sY (yv_len_sl rfl Tryz.underlying43 rfl (.sl rfl rfl)) ?_
  refine tr tbk 1 (.mk ?_)
  refine sY (yv_len_sl rfl Tryz.underlying43 rfl (.sl rfl rfl)) ?_
  obtain ⟨p27, h3⟩ := asrt_e h3
  obtain ⟨x28, e28, h3⟩ := bnd_e h3
  refine sY (yv_slO3 (len := y1_2) (i := 1) (j := (Int.toNat (y1_2 : Int))) rfl Tryz.underlying43 sh38 rfl rfl rfl rfl (.yes rfl (by first | omega | (dsimp only; omega) | (dsimp only at *; omega))) (.yes rfl (by first | omega | (dsimp only; omega) | (dsimp only at *; omega))) (.yes rfl (by first | omega | (dsimp only; omega) | (dsimp only at *; omega))) (by first | omega | (dsimp only; omega) | (dsimp only at *; omega)) (by first | omega | (dsimp only; omega) | (dsimp only at *; omega)) e28) ?_
  refine tr tbk 3 (.mk ?_)
  refine c_drawE [0, 1, 0, 4, 15, 0, 32, 0, 128, 480, 0, 1024, 0, 4096, 15360, 3199, 35967, 102399, 233471, 524287, 1048575] (rl [(0, [6]), (1, [6]), (2, [7]), (3, [7]), (5, [6]), (6, [6]), (7, [7]), (8, [7]), (10, [6]), (11, [6]), (12, [7]), (13, [7]), (15, [6]), (17, [6]), (19, [6])] []) (rl [(16, [7]), (18, [7]), (20, [])] [6, 7]) (rl [(16, false), (18, false), (20, false)] true) [0, 1, 2, 3, 4, 5, 6, 7, 8, 9, 10, 11, 12, 13, 14, 15, 16, 17, 18, 19, 20] mixed (by kernel_rfl) ?_; intro K hK
  refine eF fo38_0 ?_
  refine eL sh3 ?_
  refine eF fo38_0 ?_
  refine eL sh3 ?_
  obtain ⟨x29, e29, h3⟩ := bnd_e h3
  refine eP (fun H hH => yv_add rfl rfl rfl e29) ?_
  refine eF fo38_1 ?_
  refine eL sh3 ?_
  refine eF fo38_1 ?_
  refine eL sh3 ?_
  obtain ⟨x30, e30, h3⟩ := bnd_e h3
  refine eP (fun H hH => yv_add rfl rfl rfl e30) ?_
  refine eF fo38_2 ?_
  refine eL sh3 ?_
  refine eF fo38_2 ?_
  refine eL sh3 ?_
  obtain ⟨x31, e31, h3⟩ := bnd_e h3
  refine eP (fun H hH => yv_add rfl rfl rfl e31) ?_
  refine eF fo38_0 ?_
  refine de_eff0 rfl rfl rfl rfl (Yield.weak (yl_ob (ob' := (⟨38, 3, true, true, v18, [[int x29, int y1_4.Value, int y1_4.Profit]]⟩ : AObj)) (yl_store rfl sh3 rfl rfl rfl rfl rfl rfl rfl rfl rfl) rfl) (fun _ h => h) (fun _ _ => trivial)) (by rintro _ _ ⟨rfl, rfl⟩; exact ⟨rfl, trivial⟩) ?_; rintro _ _ ⟨rfl, rfl⟩
  refine eF fo38_1 ?_
  refine de_eff0 rfl rfl rfl rfl (Yield.weak (yl_ob (ob' := (⟨38, 3, true, true, v18, [[int x29, int x30, int y1_4.Profit]]⟩ : AObj)) (yl_store rfl sh3 rfl rfl rfl rfl rfl rfl rfl rfl rfl) rfl) (fun _ h => h) (fun _ _ => trivial)) (by rintro _ _ ⟨rfl, rfl⟩; exact ⟨rfl, trivial⟩) ?_; rintro _ _ ⟨rfl, rfl⟩
  refine eF fo38_2 ?_
  refine de_eff0 rfl rfl rfl rfl (Yield.weak (yl_ob (ob' := (⟨38, 3, true, true, v18, [[int x29, int x30, int x31]]⟩ : AObj)) (yl_store rfl sh3 rfl rfl rfl rfl rfl rfl rfl rfl rfl) rfl) (fun _ h => h) (fun _ _ => trivial)) (by rintro _ _ ⟨rfl, rfl⟩; exact trivial) ?_; rintro _ _ ⟨rfl, rfl⟩
  refine de_nil (hK _ ?_)
  refine tc tbk 4 (.mk ?_)
  refine ni tbk h3 fun x32 h3 => ?_
  refine tr tbk 3 (.mk ?_)
  exact bk (x28, ((Int.toNat (y1_2 : Int)) - 1), x32, (⟨x29, x30, x31⟩ : GLayer)) () h3 leA
  rintro ⟨y3_1, y3_2, y3_3⟩ _ h2
  replace h2 := p2_e h2
  replace h2 := p2_e h2
  refine tc tbk 1 (.mk ?_)
  refine c_drawE [0, 0, 1, 7, 15] (rl [(1, [6])] []) (rl [(3, [])] [6]) (rl [(3, false)] true) [0, 1, 2, 3, 4] mixed (by kernel_rfl) ?_; intro K hK
  refine eM ?_
  refine eL sh38 ?_
  refine eA ?_
  refine de_eff0 rfl rfl rfl rfl (Yield.weak (yl_ob (ob' := (⟨38, 3, true, true, v12, [[int y3_3.Qty, int y3_3.Value, int y3_3.Profit]]⟩ : AObj)) (yl_store rfl sh38 rfl rfl rfl rfl rfl rfl rfl rfl rfl) rfl) (fun _ h => h) (fun _ _ => trivial)) (by rintro _ _ ⟨rfl, rfl⟩; exact trivial) ?_; rintro _ _ ⟨rfl, rfl⟩
  refine eA ?_
  refine de_nil (hK _ ?_)
  obtain rfl := nxt_e h2
  refine w_ret (hret _ _ (hk [(1, ⟨38, 3, true, true, v4, [[int 0, int 0, int 0]]⟩), (2, ⟨38, 3, true, true, v8, [[int 0, int 0, int 0]]⟩), (5, ⟨38, 3, true, true, v14, a1.map GLayer.av⟩)]) (.tmp rfl (.cell rfl (.pt rfl rfl rfl) sh38 rfl (.tmp rfl .nil))) (HK.le ⟨rfl, rfl, rfl, trivial⟩) ?_)
  exact ⟨(y3_1, y3_2, y3_3, 0), v14, rfl, rfl, rfl⟩
  replace h2 := ct h2
  refine tc tbk 6 (.mk ?_)
  refine sS ⟨38, 3, true, true, v12, [[int 0, int 0, int 0]]⟩ sh38 ?_
  refine tr tbk 2 (.mk ?_)
  obtain rfl := nxt_e h2
  refine w_ret (hret _ _ (hk [(1, ⟨38, 3, true, true, v4, [[int 0, int 0, int 0]]⟩), (2, ⟨38, 3, true, true, v8, [[int 0, int 0, int 0]]⟩), (5, ⟨38, 3, true, true, v14, a1.map GLayer.av⟩)]) (.tmp rfl (.cell rfl (.pt rfl rfl rfl) sh38 rfl (.tmp rfl .nil))) (HK.le ⟨rfl, rfl, rfl, trivial⟩) ?_)
  exact ⟨(0, a1.length, (⟨0, 0, 0⟩ : GLayer), 5), v14, rfl, rfl, rfl⟩
  rintro y _ ⟨⟨y4_2, y4_3, y4_4, y4_5⟩, w4_1, rfl, hc, rfl⟩
  replace h1 := p2_e h1
  replace h1 := p2_e h1
  replace h1 := p2_e h1
  subst hc
  refine tr tbk 4 (.mk ?_)
  refine sS ⟨38, 3, true, true, v8, [[int y4_4.Qty, int y4_4.Value, int y4_4.Profit]]⟩ sh38 ?_
  refine tr tbk 2 (.mk ?_)
  obtain rfl := nxt_e h1
  refine w_ret (hret _ _ (hk [(1, ⟨38, 3, true, true, v4, [[int 0, int 0, int 0]]⟩), (5, ⟨38, 3, true, true, w4_1, a1.map GLayer.av⟩)]) (.tmp rfl (.cell rfl (.pt rfl rfl rfl) sh38 rfl (.tmp rfl .nil))) (HK.le ⟨rfl, rfl, trivial⟩) ?_)
  exact ⟨(y4_2, y4_3, y4_4, y4_5), w4_1, rfl, rfl, rfl⟩
  rintro y _ ⟨⟨y5_2, y5_3, y5_4, y5_5⟩, w5_1, rfl, hc, rfl⟩
  replace h0 := p2_e h0
  replace h0 := p2_e h0
  replace h0 := p2_e h0
  subst hc
  refine tr tbk 4 (.mk ?_)
  refine sA 8 z38 fun v33 => ?_
  refine tr tbk 1 (.mk ?_)
  refine sS ⟨38, 3, true, true, v33, [[int y5_4.Qty, int y5_4.Value, int y5_4.Profit]]⟩ sh38 ?_
  refine tr tbk 4 (.mk ?_)
  refine jn h0 [1, 2, 6, 7, 8, 9, 10, 11] [1, 5, 8] (fun (a : Bool) (k : Unit) => [(33, boo a)]) (fun a k => []) ⟨fun j34 h1 => ?_, ?_⟩
  refine tc tbk 2 (.mk ?_)
  refine nb tbk h1 fun x35 h1 => ?_
  refine tr tbk 1 (.mk ?_)
  cases x35
  replace h1 := cf h1
  refine tr tbk 1 (.mk ?_)
  refine sY (yv_len_sl rfl Tryz.underlying43 rfl (.sl rfl rfl)) ?_
  refine nb tbk h1 fun x36 h1 => ?_
  refine tr tbk 2 (.mk ?_)
  exact lf h1 () leA
  replace h1 := ct h1
  refine tr tbk 5 (.mk ?_)
  exact lf h1 () leA
  rintro y6_1 _ h0
  replace h0 := asrt_e h0
  obtain ⟨rfl, h0⟩ := h0
  refine tc tbk 2 (.mk ?_)
  refine c_drawE [0, 0, 0, 1, 11, 31] (rl [(1, [8])] []) (rl [(4, [])] [8]) (rl [(4, false)] true) [0, 1, 2, 3, 4, 5] mixed (by kernel_rfl) ?_; intro K hK
  refine eM ?_
  refine eL sh38 ?_
  refine eM ?_
  refine eA ?_
  refine de_eff0 rfl rfl rfl rfl (Yield.weak (yl_ob (ob' := (⟨38, 3, true, true, v4, [[int y5_4.Qty, int y5_4.Value, int y5_4.Profit]]⟩ : AObj)) (yl_store rfl sh38 rfl rfl rfl rfl rfl rfl rfl rfl rfl) rfl) (fun _ h => h) (fun _ _ => trivial)) (by rintro _ _ ⟨rfl, rfl⟩; exact trivial) ?_; rintro _ _ ⟨rfl, rfl⟩
  refine eA ?_
  refine de_nil (hK _ ?_)
  obtain ⟨p37, h0⟩ := asrt_e h0
  obtain rfl := nxt_e h0
  refine wR hret (rT (rC sh38 (rT .nil))) ?_
  exact CvL.tup (.cons (cv_win (l := a1) rfl rfl rfl rfl (CvLL.refl _) (by first | omega | (simp only [List.length_set]; omega)) rfl) (.cons (.refl _) (.cons (.refl _) .nil)))
def d_pavg_Free_L0 (a1 : GPool) : Nat → Int → Int → Option (Int)
  | 0, _, _ => none
  | n + 1, y0_1, y0_2 =>
    bnd (decide (y0_2 < (a1.Layers.length : Int))) fun x4 =>
    cond x4 ((ix a1.Layers y0_2).bind fun x5 =>
    bnd (w64 (y0_1 + x5.Qty)) fun x7 =>
    bnd (w64 (y0_2 + 1)) fun x8 =>
    d_pavg_Free_L0 a1 n (x7 : Int) (x8 : Int)) (some (y0_1 : Int))
def d_pavg_Free_L1 (a1 : GPool) : Nat → Int → Int → Option (Int)
  | 0, _, _ => none
  | n + 1, y2_1, y2_2 =>
    bnd (decide (y2_2 < 3)) fun x10 =>
    cond x10 ((ix ([a1.Pend.a0, a1.Pend.a1, a1.Pend.a2] : List Int) y2_2).bind fun x11 =>
    bnd (w64 (y2_1 - x11)) fun x12 =>
    bnd (w64 (y2_2 + 1)) fun x13 =>
    d_pavg_Free_L1 a1 n (x12 : Int) (x13 : Int)) (some (y2_1 : Int))
def d_pavg_Free (n : Nat) (a1 : GPool) : Option (Int) :=
(show Option (Int) from
d_pavg_Free_L0 a1 n (0 : Int) (0 : Int)).bind <| fun y1_1 =>
(show Option (Int) from
d_pavg_Free_L1 a1 n (y1_1 : Int) (0 : Int)).bind <| fun y3_1 =>
some ((y3_1 : Int))
theorem d_pavg_Free_c {n : Nat} {a1 : GPool} {r : Int} (h0 : d_pavg_Free n a1 = some r) : PP Tryz.prog 75 [.agg (GPool.av a1)] (fun y => y = int r) := by
  unfold d_pavg_Free at h0
  refine pp_of_pc (R0 := fun y H => Cv (frzH H) y (int r)) ?_ (fun y H hc => ⟨_, rfl, pvI r, hc⟩)
  refine pcw (c := _) Tryz.func75 rfl rfl ?_; intro Q hret hnorm
  refine tc tbk 2 (.mk ?_)
  refine sB 1 fun v2 => ?_
  refine tr tbk 11 (.mk ?_)
  refine sY (yv_len_sl rfl Tryz.underlying43 rfl (lst_len _)) ?_
  refine tr tbk 2 (.mk ?_)
  refine jn h0 [1, 2] [1] (fun (a : Int) (k : Unit) => [(3, int a)]) (fun a k => []) ⟨fun j3 h1 => ?_, ?_⟩
  refine tc tbk 1 (.mk ?_)
  refine lp (fun n (a : Int × Int) => d_pavg_Free_L0 a1 n a.1 a.2) ((0 : Int), (0 : Int)) () h1 [1, 2, 9, 10] [1] (fun (a : Int × Int) (k : Unit) => [(3, int a.1), (11, int a.2)]) (fun a k => []) (fun _ => rfl) ⟨leA, ?_⟩
  rintro n ⟨y0_1, y0_2⟩ _ hm h1
  replace h1 : d_pavg_Free_L0 a1 (n + 1) y0_1 y0_2 = some _ := h1
  rw [d_pavg_Free_L0] at h1
  refine tc tbk 2 (.mk ?_)
  refine nb tbk h1 fun x4 h1 => ?_
  refine tr tbk 2 (.mk ?_)
  cases x4
  replace h1 := cf h1
  refine tc tbk 2 (.mk ?_)
  exact lf h1 () leA
  replace h1 := ct h1
  refine tc tbk 6 (.mk ?_)
  obtain ⟨x5, e5, h1⟩ := bind_e h1
  refine sY (yv_ixT rfl Tryz.underlying43 sh38 rfl rfl e5) ?_
  refine tr tbk 1 (.mk ?_)
  refine sA 2 z38 fun v6 => ?_
  refine sS ⟨38, 3, true, true, v6, [[int x5.Qty, int x5.Value, int x5.Profit]]⟩ sh38 ?_
  refine tr tbk 5 (.mk ?_)
  refine ni tbk h1 fun x7 h1 => ?_
  refine tr tbk 4 (.mk ?_)
  refine ni tbk h1 fun x8 h1 => ?_
  refine tr tbk 2 (.mk ?_)
  exact bk (x7, x8) () h1 leA
  rintro y1_1 _ h0
  refine tc tbk 7 (.mk ?_)
  refine jn h0 [2] [] (fun (a : Int) (k : Unit) => [(3, int a)]) (fun a k => []) ⟨fun j9 h1 => ?_, ?_⟩
  refine tc tbk 1 (.mk ?_)
  refine lp (fun n (a : Int × Int) => d_pavg_Free_L1 a1 n a.1 a.2) ((y1_1 : Int), (0 : Int)) () h1 [2, 21] [] (fun (a : Int × Int) (k : Unit) => [(3, int a.1), (22, int a.2)]) (fun a k => []) (fun _ => rfl) ⟨leA, ?_⟩
  rintro n ⟨y2_1, y2_2⟩ _ hm h1
  replace h1 : d_pavg_Free_L1 a1 (n + 1) y2_1 y2_2 = some _ := h1
  rw [d_pavg_Free_L1] at h1
  refine tc tbk 2 (.mk ?_)
  refine nb tbk h1 fun x10 h1 => ?_
  refine tr tbk 2 (.mk ?_)
  cases x10
  replace h1 := cf h1
  refine tc tbk 2 (.mk ?_)
  exact lf h1 () leA
  replace h1 := ct h1
  refine tc tbk 6 (.mk ?_)
  obtain ⟨x11, e11, h1⟩ := bind_e h1
  refine sY (yv_indexAT (g := fI) (l := ([a1.Pend.a0, a1.Pend.a1, a1.Pend.a2] : List Int)) (v := x11) (w := int x11) rfl Tryz.underlying44 sh3 rfl rfl rfl e11 (fun _ => rfl) hw1) ?_
  refine tr tbk 5 (.mk ?_)
  refine ni tbk h1 fun x12 h1 => ?_
  refine tr tbk 4 (.mk ?_)
  refine ni tbk h1 fun x13 h1 => ?_
  refine tr tbk 2 (.mk ?_)
  exact bk (x12, x13) () h1 leA
  rintro y3_1 _ h0
  refine tc tbk 5 (.mk ?_)
  obtain rfl := nxt_e h0
  refine wR hret (rT .nil) ?_
  exact .refl _
def d_fifo_Out_L0 (a1 : List GLayer) : Nat → Nat → Nat → Int → GLayer → Option (Nat × Nat × GLayer)
  | 0, _, _, _, _ => none
  | n + 1, y0_1, y0_2, y0_3, y0_4 =>
    (show Option (Bool) from
    bnd (decide ((y0_2 : Int) > 0)) fun x12 =>
    cond x12 (bnd (decide (y0_3 > 0)) fun x13 =>
    some (x13 : Bool)) (some (false : Bool))).bind <| fun y1_1 =>
    cond y1_1 (asrt ((0 : Int) ≤ 0 ∧ 0 < (y0_2 : Int)) <|
    (ix a1 (((y0_1 : Nat) : Int) + 0)).bind fun x15 =>
    bnd (decide (x15.Qty > y0_3)) fun x17 =>
    asrt (x17 = false) <|
    asrt ((0 : Int) ≤ 1 ∧ 1 ≤ (y0_2 : Int) ∧ (y0_2 : Int) ≤ (y0_2 : Int) ∧ 1 < (y0_2 + 1 : Int)) <|
    bnd (if (Int.toNat (y0_2 : Int)) = 1 then y0_1 else y0_1 + 1) fun x19 =>
    bnd (w64 (y0_4.Qty + x15.Qty)) fun x20 =>
    bnd (w64 (y0_4.Value + x15.Value)) fun x21 =>
    bnd (w64 (y0_4.Profit + x15.Profit)) fun x22 =>
    bnd (w64 (y0_3 - x15.Qty)) fun x23 =>
    d_fifo_Out_L0 a1 n (x19 : Nat) (((Int.toNat (y0_2 : Int)) - 1) : Nat) (x23 : Int) ((⟨x20, x21, x22⟩ : GLayer) : GLayer)) (some ((y0_1 : Nat), (y0_2 : Nat), (y0_4 : GLayer)))
def d_fifo_Out (n : Nat) (a1 : List GLayer) (a2 : Int) : Option ((List GLayer) × GLayer × Int) :=
asrt (a1.length ≤ 68719476736) <|
bnd (decide (a2 < 1)) fun x6 =>
asrt (x6 = false) <|
(d_fifo_has n a1 a2).bind fun x7 =>
bnd (!x7) fun x8 =>
cond x8 (some ((a1 : List GLayer), ((⟨0, 0, 0⟩ : GLayer) : GLayer), (5 : Int))) ((show Option (Nat × Nat × GLayer) from
d_fifo_Out_L0 a1 n (0 : Nat) (a1.length : Nat) (a2 : Int) ((⟨0, 0, 0⟩ : GLayer) : GLayer)).bind <| p2 fun (y2_1 : Nat) (q0 : Nat × GLayer) => (p2 fun (y2_2 : Nat) (y2_3 : GLayer) =>
asrt (y2_1 + y2_2 ≤ a1.length) <|
some (((((a1).drop y2_1).take y2_2) : List GLayer), (y2_3 : GLayer), (0 : Int))) q0)
theorem d_fifo_Out_c {n : Nat} {a1 : List GLayer} {a2 : Int} {r : (List GLayer) × GLayer × Int} (h0 : d_fifo_Out n a1 a2 = some r) : PP Tryz.prog 218 [lst 3 GLayer.av a1, int a2] (fun y => y = .tup [lst 3 GLayer.av r.1, .agg (GLayer.av r.2.1), int r.2.2]) := by
  unfold d_fifo_Out at h0
  refine pp_of_pc (R0 := fun y H => Cv (frzH H) y (.tup [lst 3 GLayer.av r.1, .agg (GLayer.av r.2.1), int r.2.2])) ?_ (fun y H hc => ⟨_, rfl, .tup (pvl3 ((pvLs GLayer.pvc) (r.1)) ((fun (a : GLayer) => PV.agg (GLayer.pvc a)) (r.2.1)) (pvI (r.2.2))), hc⟩)
  refine pcw (c := _) Tryz.func218 rfl rfl ?_; intro Q hret hnorm
  refine tc tbk 3 (.mk ?_)
  refine sA 1 z38 fun v3 => ?_
  refine tr tbk 5 (.mk ?_)
  obtain ⟨p4, h0⟩ := asrt_e h0
  refine rse rfl rfl rfl (yl_call rfl rfl (.cons rfl .nil) cal29 (pc_cv (clone29_c (id := 2) (l := a1) rfl p4) (.cons (.refl _) .nil))) ?_; rintro _ _ ⟨v5, rfl, rfl⟩
  refine tr tbk 6 (.mk ?_)
  refine nb tbk h0 fun x6 h0 => ?_
  refine tr tbk 1 (.mk ?_)
  replace h0 := asrt_e h0
  obtain ⟨rfl, h0⟩ := h0
  refine tc tbk 7 (.mk ?_)
  obtain ⟨x7, e7, h0⟩ := bind_e h0
  refine sY (yv_callT (v := boo x7) rfl rfl (.cons rfl (.cons rfl .nil)) cal219 (.cons (cv_lst rfl rfl rfl rfl rfl (Eq.symm rfl)) (.cons (.refl _) .nil)) (d_fifo_has_c e7) rfl) ?_
  refine nb tbk h0 fun x8 h0 => ?_
  refine tr tbk 1 (.mk ?_)
  cases x8
  replace h0 := cf h0
  refine tc tbk 4 (.mk ?_)
  refine sA 3 z38 fun v9 => ?_
  refine tr tbk 2 (.mk ?_)
  refine jn h0 [4, 5, 6, 7] [1, 2] (fun (a : Nat × Nat × GLayer) (k : Unit) => [(0, .sl 2 v5 a.1 a.2.1)]) (fun a k => [(3, ⟨38, 3, true, true, v9, [[int a.2.2.Qty, int a.2.2.Value, int a.2.2.Profit]]⟩)]) ⟨fun j10 h1 => ?_, ?_⟩
  refine tc tbk 1 (.mk ?_)
  refine lp (fun n (a : Nat × Nat × Int × GLayer) => d_fifo_Out_L0 a1 n a.1 a.2.1 a.2.2.1 a.2.2.2) ((0 : Nat), (a1.length : Nat), (a2 : Int), ((⟨0, 0, 0⟩ : GLayer) : GLayer)) () h1 [4, 5, 6, 7] [1, 2] (fun (a : Nat × Nat × Int × GLayer) (k : Unit) => [(0, .sl 2 v5 a.1 a.2.1), (1, int a.2.2.1)]) (fun a k => [(3, ⟨38, 3, true, true, v9, [[int a.2.2.2.Qty, int a.2.2.2.Value, int a.2.2.2.Profit]]⟩)]) (fun _ => rfl) ⟨leA, ?_⟩
  rintro n ⟨y0_1, y0_2, y0_3, y0_4⟩ _ hm h1
  replace h1 : d_fifo_Out_L0 a1 (n + 1) y0_1 y0_2 y0_3 y0_4 = some _ := h1
  rw [d_fifo_Out_L0] at h1
  refine tc tbk 2 (.mk ?_)
  refine jn h1 [0, 1, 4, 5, 6, 7] [1, 2, 3] (fun (a : Bool) (k : Unit) => [(27, boo a)]) (fun a k => []) ⟨fun j11 h2 => ?_, ?_⟩
  refine tc tbk 2 (.mk ?_)
  refine sY (yv_len_sl rfl Tryz.underlying43 rfl (.sl rfl rfl)) ?_
  refine nb tbk h2 fun x12 h2 => ?_
  refine tr tbk 1 (.mk ?_)
  cases x12
  replace h2 := cf h2
  refine tr tbk 4 (.mk ?_)
  exact lf h2 () leA
  replace h2 := ct h2
  refine tr tbk 1 (.mk ?_)
  refine nb tbk h2 fun x13 h2 => ?_
  refine tr tbk 2 (.mk ?_)
  exact lf h2 () leA
  rintro y1_1 _ h1
  cases y1_1
  replace h1 := cf h1
  refine tc tbk 2 (.mk ?_)
  exact lf h1 () leA
  replace h1 := ct h1
  refine tc tbk 6 (.mk ?_)
  obtain ⟨p14, h1⟩ := asrt_e h1
  obtain ⟨x15, e15, h1⟩ := bind_e h1
  refine sY (yv_ixW rfl Tryz.underlying43 sh38 rfl rfl rfl rfl rfl p14 (List.length_map _) e15) ?_
  refine sY (yv_load rfl sh38 rfl (.pt rfl rfl (ix_get e15)) rfl) ?_
  refine sA 4 z38 fun v16 => ?_
  refine sS ⟨38, 3, true, true, v16, [[int x15.Qty, int x15.Value, int x15.Profit]]⟩ sh38 ?_
  refine tr tbk 7 (.mk ?_)
  refine nb tbk h1 fun x17 h1 => ?_
  refine tr tbk 1 (.mk ?_)
  replace h1 := asrt_e h1
  obtain ⟨rfl, h1⟩ := h1
  refine tc tbk 4 (.mk ?_)
  refine sY (yv_len_sl rfl Tryz.underlying43 rfl (.sl rfl rfl)) ?_
  refine tr tbk 1 (.mk ?_)
  refine sY (yv_len_sl rfl Tryz.underlying43 rfl (.sl rfl rfl)) ?_
  obtain ⟨p18, h1⟩ := asrt_e h1
  obtain ⟨x19, e19, h1⟩ := bnd_e h1
  refine sY (yv_slO3 (len := y0_2) (i := 1) (j := (Int.toNat (y0_2 : Int))) rfl Tryz.underlying43 sh38 rfl rfl rfl rfl (.yes rfl (by first | omega | (dsimp only; omega) | (dsimp only at *; omega))) (.yes rfl (by first | omega | (dsimp only; omega) | (dsimp only at *; omega))) (.yes rfl (by first | omega | (dsimp only; omega) | (dsimp only at *; omega))) (by first | omega | (dsimp only; omega) | (dsimp only at *; omega)) (by first | omega | (dsimp only; omega) | (dsimp only at *; omega)) e19) ?_
  refine tr tbk 3 (.mk ?_)
  refine c_drawE [0, 1, 0, 4, 15, 0, 32, 0, 128, 480, 0, 1024, 0, 4096, 15360, 3199, 35967, 102399, 233471, 524287, 1048575] (rl [(0, [3]), (1, [3]), (2, [4]), (3, [4]), (5, [3]), (6, [3]), (7, [4]), (8, [4]), (10, [3]), (11, [3]), (12, [4]), (13, [4]), (15, [3]), (17, [3]), (19, [3])] []) (rl [(16, [4]), (18, [4]), (20, [])] [3, 4]) (rl [(16, false), (18, false), (20, false)] true) [0, 1, 2, 3, 4, 5, 6, 7, 8, 9, 10, 11, 12, 13, 14, 15, 16, 17, 18, 19, 20] mixed (by kernel_rfl) ?_; intro K hK
  refine eF fo38_0 ?_
  refine eL sh3 ?_
  refine eF fo38_0 ?_
  refine eL sh3 ?_
  obtain ⟨x20, e20, h1⟩ := bnd_e h1
  refine eP (fun H hH => yv_add rfl rfl rfl e20) ?_
  refine eF fo38_1 ?_
  refine eL sh3 ?_
  refine eF fo38_1 ?_
  refine eL sh3 ?_
  obtain ⟨x21, e21, h1⟩ := bnd_e h1
  refine eP (fun H hH => yv_add rfl rfl rfl e21) ?_
  refine eF fo38_2 ?_
  refine eL sh3 ?_
  refine eF fo38_2 ?_
  refine eL sh3 ?_
  obtain ⟨x22, e22, h1⟩ := bnd_e h1
  refine eP (fun H hH => yv_add rfl rfl rfl e22) ?_
  refine eF fo38_0 ?_
  refine de_eff0 rfl rfl rfl rfl (Yield.weak (yl_ob (ob' := (⟨38, 3, true, true, v9, [[int x20, int y0_4.Value, int y0_4.Profit]]⟩ : AObj)) (yl_store rfl sh3 rfl rfl rfl rfl rfl rfl rfl rfl rfl) rfl) (fun _ h => h) (fun _ _ => trivial)) (by rintro _ _ ⟨rfl, rfl⟩; exact ⟨rfl, trivial⟩) ?_; rintro _ _ ⟨rfl, rfl⟩
  refine eF fo38_1 ?_
  refine de_eff0 rfl rfl rfl rfl (Yield.weak (yl_ob (ob' := (⟨38, 3, true, true, v9, [[int x20, int x21, int y0_4.Profit]]⟩ : AObj)) (yl_store rfl sh3 rfl rfl rfl rfl rfl rfl rfl rfl rfl) rfl) (fun _ h => h) (fun _ _ => trivial)) (by rintro _ _ ⟨rfl, rfl⟩; exact ⟨rfl, trivial⟩) ?_; rintro _ _ ⟨rfl, rfl⟩
  refine eF fo38_2 ?_
  refine de_eff0 rfl rfl rfl rfl (Yield.weak (yl_ob (ob' := (⟨38, 3, true, true, v9, [[int x20, int x21, int x22]]⟩ : AObj)) (yl_store rfl sh3 rfl rfl rfl rfl rfl rfl rfl rfl rfl) rfl) (fun _ h => h) (fun _ _ => trivial)) (by rintro _ _ ⟨rfl, rfl⟩; exact trivial) ?_; rintro _ _ ⟨rfl, rfl⟩
  refine de_nil (hK _ ?_)
  refine tc tbk 4 (.mk ?_)
  refine ni tbk h1 fun x23 h1 => ?_
  refine tr tbk 3 (.mk ?_)
  exact bk (x19, ((Int.toNat (y0_2 : Int)) - 1), x23, (⟨x20, x21, x22⟩ : GLayer)) () h1 leA
  rintro ⟨y2_1, y2_2, y2_3⟩ _ h0
  replace h0 := p2_e h0
  replace h0 := p2_e h0
  refine tc tbk 1 (.mk ?_)
  refine c_drawE [0, 0, 1, 7, 15] (rl [(1, [3])] []) (rl [(3, [])] [3]) (rl [(3, false)] true) [0, 1, 2, 3, 4] mixed (by kernel_rfl) ?_; intro K hK
  refine eM ?_
  refine eL sh38 ?_
  refine eA ?_
  refine de_eff0 rfl rfl rfl rfl (Yield.weak (yl_ob (ob' := (⟨38, 3, true, true, v3, [[int y2_3.Qty, int y2_3.Value, int y2_3.Profit]]⟩ : AObj)) (yl_store rfl sh38 rfl rfl rfl rfl rfl rfl rfl rfl rfl) rfl) (fun _ h => h) (fun _ _ => trivial)) (by rintro _ _ ⟨rfl, rfl⟩; exact trivial) ?_; rintro _ _ ⟨rfl, rfl⟩
  refine eA ?_
  refine de_nil (hK _ ?_)
  obtain ⟨p24, h0⟩ := asrt_e h0
  obtain rfl := nxt_e h0
  refine wR hret (rT (rC sh38 (rT .nil))) ?_
  exact CvL.tup (.cons (cv_win (l := a1) rfl rfl rfl rfl (CvLL.refl _) (by first | omega | (simp only [List.length_set]; omega)) rfl) (.cons (.refl _) (.cons (.refl _) .nil)))
  replace h0 := ct h0
  refine tc tbk 6 (.mk ?_)
  refine sS ⟨38, 3, true, true, v3, [[int 0, int 0, int 0]]⟩ sh38 ?_
  refine tr tbk 2 (.mk ?_)
  obtain rfl := nxt_e h0
  refine wR hret (rT (rC sh38 (rT .nil))) ?_
  exact CvL.tup (.cons (cv_lst rfl rfl rfl rfl rfl (Eq.symm rfl)) (.cons (.refl _) (.cons (.refl _) .nil)))
def d_mavg_Out (n : Nat) (a1 : List GLayer) (a2 : Int) : Option ((List GLayer) × GLayer × Int) :=
(show Option ((Unit)) from
some ()).bind <| fun _ =>
(d_fifo_Out n a1 a2).bind fun x6 =>
some ((x6.1 : List GLayer), (x6.2.1 : GLayer), (x6.2.2 : Int))
theorem d_mavg_Out_c {n : Nat} {a1 : List GLayer} {a2 : Int} {r : (List GLayer) × GLayer × Int} (h0 : d_mavg_Out n a1 a2 = some r) : PP Tryz.prog 229 [lst 3 GLayer.av a1, int a2] (fun y => y = .tup [lst 3 GLayer.av r.1, .agg (GLayer.av r.2.1), int r.2.2]) := by
  unfold d_mavg_Out at h0
  refine pp_of_pc (R0 := fun y H => Cv (frzH H) y (.tup [lst 3 GLayer.av r.1, .agg (GLayer.av r.2.1), int r.2.2])) ?_ (fun y H hc => ⟨_, rfl, .tup (pvl3 ((pvLs GLayer.pvc) (r.1)) ((fun (a : GLayer) => PV.agg (GLayer.pvc a)) (r.2.1)) (pvI (r.2.2))), hc⟩)
  refine pcw (c := _) Tryz.func229 rfl rfl ?_; intro Q hret hnorm
  refine tc tbk 3 (.mk ?_)
  refine sA 1 z38 fun v3 => ?_
  refine tr tbk 4 (.mk ?_)
  obtain ⟨j4, h1, h0⟩ := bind_e h0
  refine rse (Out := fun y H' => (∃ (a : Unit) (k : Unit), a = j4 ∧ y = .agg [.fn (.func 217) [] [], .fn (.func 218) [] [], .fn (.func 46) [] []] ∧ H' = hk [(1, ⟨38, 3, true, true, v3, [[int 0, int 0, int 0]]⟩)])) rfl rfl rfl (yl_call rfl rfl .nil cal230 ?_) ?_
  refine pcw (c := _) Tryz.func230 rfl rfl ?_; intro Q hret hnorm
  refine tc tbk 2 (.mk ?_)
  refine sA 2 z251 fun v5 => ?_
  refine tr tbk 4 (.mk ?_)
  refine sS ⟨251, 3, true, true, v5, [[.fn (.func 217) [] [], .fn (.func 218) [] [], .fn (.func 46) [] []]]⟩ sh251 ?_
  refine tr tbk 1 (.mk ?_)
  obtain rfl := nxt_e h1
  refine w_ret (hret _ _ (hk [(1, ⟨38, 3, true, true, v3, [[int 0, int 0, int 0]]⟩)]) (.cell rfl (.pt rfl rfl rfl) sh251 rfl .nil) (HK.le ⟨rfl, trivial⟩) ?_)
  exact ⟨(), (), rfl, rfl, rfl⟩
  rintro y _ ⟨_, _, rfl, hc, rfl⟩
  subst hc
  refine tr tbk 3 (.mk ?_)
  obtain ⟨x6, e6, h0⟩ := bind_e h0
  refine sC cal218 (d_fifo_Out_c e6) ?_
  refine tr tbk 4 (.mk ?_)
  refine sS ⟨38, 3, true, true, v3, [[int x6.2.1.Qty, int x6.2.1.Value, int x6.2.1.Profit]]⟩ sh38 ?_
  refine tr tbk 2 (.mk ?_)
  obtain rfl := nxt_e h0
  refine wR hret (rT (rC sh38 (rT .nil))) ?_
  exact .refl _
def d_pavg_Out (n : Nat) (a1 : GPool) (a2 : Int) : Option (GPool × GLayer × Int) :=
bnd (decide (a2 < 1)) fun x6 =>
asrt (x6 = false) <|
(d_pavg_Free n a1).bind fun x7 =>
bnd (decide (a2 > x7)) fun x8 =>
cond x8 ((d_pavg_own a1 a1.Layers).bind fun x12 =>
some ((x12 : GPool), ((⟨0, 0, 0⟩ : GLayer) : GLayer), (5 : Int))) ((d_mavg_Out n a1.Layers a2).bind fun x9 =>
(d_pavg_own a1 x9.1).bind fun x11 =>
some ((x11 : GPool), (x9.2.1 : GLayer), (x9.2.2 : Int)))
theorem d_pavg_Out_c {n : Nat} {a1 : GPool} {a2 : Int} {r : GPool × GLayer × Int} (h0 : d_pavg_Out n a1 a2 = some r) : PP Tryz.prog 234 [.agg (GPool.av a1), int a2] (fun y => y = .tup [.agg (GPool.av r.1), .agg (GLayer.av r.2.1), int r.2.2]) := by
  unfold d_pavg_Out at h0
  refine pp_of_pc (R0 := fun y H => Cv (frzH H) y (.tup [.agg (GPool.av r.1), .agg (GLayer.av r.2.1), int r.2.2])) ?_ (fun y H hc => ⟨_, rfl, .tup (pvl3 ((fun (a : GPool) => PV.agg (GPool.pvc a)) (r.1)) ((fun (a : GLayer) => PV.agg (GLayer.pvc a)) (r.2.1)) (pvI (r.2.2))), hc⟩)
  refine pcw (c := _) Tryz.func234 rfl rfl ?_; intro Q hret hnorm
  refine tc tbk 2 (.mk ?_)
  refine sB 1 fun v3 => ?_
  refine sA 2 z46 fun v4 => ?_
  refine sA 3 z38 fun v5 => ?_
  refine tr tbk 7 (.mk ?_)
  refine nb tbk h0 fun x6 h0 => ?_
  refine tr tbk 2 (.mk ?_)
  replace h0 := asrt_e h0
  obtain ⟨rfl, h0⟩ := h0
  refine tc tbk 5 (.mk ?_)
  obtain ⟨x7, e7, h0⟩ := bind_e h0
  refine sC cal75 (d_pavg_Free_c e7) ?_
  refine nb tbk h0 fun x8 h0 => ?_
  refine tr tbk 2 (.mk ?_)
  cases x8
  replace h0 := cf h0
  refine tc tbk 8 (.mk ?_)
  obtain ⟨x9, e9, h0⟩ := bind_e h0
  refine sC cal229 (d_mavg_Out_c e9) ?_
  refine tr tbk 4 (.mk ?_)
  refine sA 4 z38 fun v10 => ?_
  refine tr tbk 1 (.mk ?_)
  refine sS ⟨38, 3, true, true, v10, [[int x9.2.1.Qty, int x9.2.1.Value, int x9.2.1.Profit]]⟩ sh38 ?_
  refine tr tbk 3 (.mk ?_)
  refine c_drawE [0, 0, 3, 0, 0, 7, 47, 127] (rl [(0, [1]), (3, [4])] []) (rl [(5, [4]), (6, [])] [1, 4]) (rl [(5, false), (6, false)] true) [0, 1, 2, 3, 4, 5, 6, 7] mixed (by kernel_rfl) ?_; intro K hK
  refine eL sh46 ?_
  refine eM ?_
  obtain ⟨x11, e11, h0⟩ := bind_e h0
  refine eP (fun H hH => yv_callP rfl rfl (.cons rfl (.cons rfl .nil)) cal73 (CvL.refl _) (d_pavg_own_c e11)) ?_
  refine eL sh38 ?_
  refine eM ?_
  refine de_eff0 rfl rfl rfl rfl (Yield.weak (yl_ob (ob' := (⟨46, 4, true, true, v4, [[lst 3 GLayer.av x11.Layers, int x11.Pend.a0, int x11.Pend.a1, int x11.Pend.a2]]⟩ : AObj)) (yl_store rfl sh46 rfl rfl rfl rfl rfl rfl rfl rfl rfl) rfl) (fun _ h => h) (fun _ _ => trivial)) (by rintro _ _ ⟨rfl, rfl⟩; exact ⟨rfl, trivial⟩) ?_; rintro _ _ ⟨rfl, rfl⟩
  refine de_eff0 rfl rfl rfl rfl (Yield.weak (yl_ob (ob' := (⟨38, 3, true, true, v5, [[int x9.2.1.Qty, int x9.2.1.Value, int x9.2.1.Profit]]⟩ : AObj)) (yl_store rfl sh38 rfl rfl rfl rfl rfl rfl rfl rfl rfl) rfl) (fun _ h => h) (fun _ _ => trivial)) (by rintro _ _ ⟨rfl, rfl⟩; exact trivial) ?_; rintro _ _ ⟨rfl, rfl⟩
  refine eA ?_
  refine de_nil (hK _ ?_)
  obtain rfl := nxt_e h0
  refine wR hret (rC sh46 (rC sh38 (rT .nil))) ?_
  exact .refl _
  replace h0 := ct h0
  refine tc tbk 6 (.mk ?_)
  obtain ⟨x12, e12, h0⟩ := bind_e h0
  refine sC cal73 (d_pavg_own_c e12) ?_
  refine tr tbk 1 (.mk ?_)
  refine sS ⟨46, 4, true, true, v4, [[lst 3 GLayer.av x12.Layers, int x12.Pend.a0, int x12.Pend.a1, int x12.Pend.a2]]⟩ sh46 ?_
  refine sS ⟨38, 3, true, true, v5, [[int 0, int 0, int 0]]⟩ sh38 ?_
  refine tr tbk 2 (.mk ?_)
  obtain rfl := nxt_e h0
  refine wR hret (rC sh46 (rC sh38 (rT .nil))) ?_
  exact .refl _
def d_pool_Out (n : Nat) (a1 : Int) (a2 : Int) (a3 : GPool) (a4 : Int) (a5 : Int) : Option (GPool × GLayer × Bool × Int) :=
(show Option ((Unit) ⊕ (Unit) ⊕ (Unit) ⊕ (Unit) ⊕ (Unit)) from
bnd (decide (a1 = 1)) fun x10 =>
cond x10 (some (.inr (.inr (.inr (.inr ()))))) (bnd (decide (a1 = 2)) fun x11 =>
cond x11 (some (.inr (.inr (.inr (.inl ()))))) (bnd (decide (a1 = 3)) fun x12 =>
cond x12 (some (.inr (.inr (.inl ())))) (bnd (decide (a1 = 4)) fun x13 =>
cond x13 (some (.inr (.inl ()))) (some (.inl ())))))).bind <| selr (fun _ =>
(d_pool_own a3).bind fun x14 =>
some ((x14 : GPool), ((⟨0, 0, 0⟩ : GLayer) : GLayer), (false : Bool), (12 : Int))) <| selr (fun _ =>
(show Option (Bool) from
bnd (decide (a4 < 0)) fun x16 =>
cond x16 (some (true : Bool)) (bnd (decide (a4 > 3)) fun x17 =>
some (x17 : Bool))).bind <| fun y5_1 =>
asrt (y5_1 = false) <|
(show Option ((Unit)) from
some ()).bind <| fun _ =>
(show Option ((GPool × GLayer × Int)) from
(d_stdcost_Out n a3.Layers a5 a2).bind fun x27 =>
(d_pool_with a3 x27.1).bind fun x29 =>
some ((x29 : GPool), (x27.2.1 : GLayer), (x27.2.2 : Int))).bind <| p2 fun (y7_1 : GPool) (q0 : GLayer × Int) => (p2 fun (y7_2 : GLayer) (y7_3 : Int) =>
bnd (decide (y7_3 ≠ 0)) fun x30 =>
cond x30 ((d_pool_own a3).bind fun x31 =>
some ((x31 : GPool), ((⟨0, 0, 0⟩ : GLayer) : GLayer), (false : Bool), (y7_3 : Int))) (some ((y7_1 : GPool), (y7_2 : GLayer), (false : Bool), (0 : Int)))) q0) <| selr (fun _ =>
(show Option (Bool) from
bnd (decide (a4 < 0)) fun x33 =>
cond x33 (some (true : Bool)) (bnd (decide (a4 > 3)) fun x34 =>
some (x34 : Bool))).bind <| fun y5_1 =>
asrt (y5_1 = false) <|
(show Option ((Unit)) from
some ()).bind <| fun _ =>
bnd (decide (a4 ≠ 3)) fun x39 =>
asrt (x39 = false) <|
(show Option ((GPool × GLayer × Int)) from
(d_pavg_Out n a3 a5).bind fun x45 =>
some ((x45.1 : GPool), (x45.2.1 : GLayer), (x45.2.2 : Int))).bind <| p2 fun (y8_1 : GPool) (q0 : GLayer × Int) => (p2 fun (y8_2 : GLayer) (y8_3 : Int) =>
bnd (decide (y8_3 ≠ 0)) fun x46 =>
cond x46 ((d_pool_own a3).bind fun x47 =>
some ((x47 : GPool), ((⟨0, 0, 0⟩ : GLayer) : GLayer), (false : Bool), (y8_3 : Int))) (some ((y8_1 : GPool), (y8_2 : GLayer), (false : Bool), (0 : Int)))) q0) <| selr (fun _ =>
(show Option (Bool) from
bnd (decide (a4 < 0)) fun x49 =>
cond x49 (some (true : Bool)) (bnd (decide (a4 > 3)) fun x50 =>
some (x50 : Bool))).bind <| fun y5_1 =>
asrt (y5_1 = false) <|
(show Option ((Unit)) from
some ()).bind <| fun _ =>
(show Option ((GPool × GLayer × Int)) from
(d_mavg_Out n a3.Layers a5).bind fun x60 =>
(d_pool_with a3 x60.1).bind fun x62 =>
some ((x62 : GPool), (x60.2.1 : GLayer), (x60.2.2 : Int))).bind <| p2 fun (y9_1 : GPool) (q0 : GLayer × Int) => (p2 fun (y9_2 : GLayer) (y9_3 : Int) =>
bnd (decide (y9_3 ≠ 0)) fun x63 =>
cond x63 ((d_pool_own a3).bind fun x64 =>
some ((x64 : GPool), ((⟨0, 0, 0⟩ : GLayer) : GLayer), (false : Bool), (y9_3 : Int))) (some ((y9_1 : GPool), (y9_2 : GLayer), (false : Bool), (0 : Int)))) q0) <| fun _ =>
(show Option (Bool) from
bnd (decide (a4 < 0)) fun x66 =>
cond x66 (some (true : Bool)) (bnd (decide (a4 > 3)) fun x67 =>
some (x67 : Bool))).bind <| fun y5_1 =>
asrt (y5_1 = false) <|
(show Option ((Unit)) from
some ()).bind <| fun _ =>
(show Option ((GPool × GLayer × Int)) from
(d_fifo_Out n a3.Layers a5).bind fun x77 =>
(d_pool_with a3 x77.1).bind fun x79 =>
some ((x79 : GPool), (x77.2.1 : GLayer), (x77.2.2 : Int))).bind <| p2 fun (y10_1 : GPool) (q0 : GLayer × Int) => (p2 fun (y10_2 : GLayer) (y10_3 : Int) =>
bnd (decide (y10_3 ≠ 0)) fun x80 =>
cond x80 ((d_pool_own a3).bind fun x81 =>
some ((x81 : GPool), ((⟨0, 0, 0⟩ : GLayer) : GLayer), (false : Bool), (y10_3 : Int))) (some ((y10_1 : GPool), (y10_2 : GLayer), (false : Bool), (0 : Int)))) q0
theorem d_pool_Out_c {n : Nat} {a1 : Int} {a2 : Int} {a3 : GPool} {a4 : Int} {a5 : Int} {r : GPool × GLayer × Bool × Int} (h0 : d_pool_Out n a1 a2 a3 a4 a5 = some r) : PP Tryz.prog 21 [int a1, int a2, .agg (GPool.av a3), int a4, int a5] (fun y => y = .tup [.agg (GPool.av r.1), .agg (GLayer.av r.2.1), boo r.2.2.1, int r.2.2.2]) := by
  unfold d_pool_Out at h0
  refine pp_of_pc (R0 := fun y H => Cv (frzH H) y (.tup [.agg (GPool.av r.1), .agg (GLayer.av r.2.1), boo r.2.2.1, int r.2.2.2])) ?_ (fun y H hc => ⟨_, rfl, .tup (pvl4 ((fun (a : GPool) => PV.agg (GPool.pvc a)) (r.1)) ((fun (a : GLayer) => PV.agg (GLayer.pvc a)) (r.2.1)) (pvB (r.2.2.1)) (pvI (r.2.2.2))), hc⟩)
  refine pcw (c := _) Tryz.func21 rfl rfl ?_; intro Q hret hnorm
  refine tc tbk 2 (.mk ?_)
  refine sB 1 fun v6 => ?_
  refine sA 2 z46 fun v7 => ?_
  refine sA 3 z38 fun v8 => ?_
  refine tr tbk 7 (.mk ?_)
  obtain ⟨j9, h1, h0⟩ := bind_e h0
  refine rse (Out := fun y H' => (∃ (a : Unit) (k : Unit), (.inl a) = j9 ∧ y = .sc .nilIface ∧ H' = hk [(1, ⟨46, 4, true, true, v6, [[lst 3 GLayer.av a3.Layers, int a3.Pend.a0, int a3.Pend.a1, int a3.Pend.a2]]⟩), (2, ⟨46, 4, true, true, v7, [[.sc (.slice none 0 0), int 0, int 0, int 0]]⟩), (3, ⟨38, 3, true, true, v8, [[int 0, int 0, int 0]]⟩)]) ∨ (∃ (a : Unit) (k : Unit), (.inr (.inl a)) = j9 ∧ y = .ifc 140 (.agg [int a2]) ∧ H' = hk [(1, ⟨46, 4, true, true, v6, [[lst 3 GLayer.av a3.Layers, int a3.Pend.a0, int a3.Pend.a1, int a3.Pend.a2]]⟩), (2, ⟨46, 4, true, true, v7, [[.sc (.slice none 0 0), int 0, int 0, int 0]]⟩), (3, ⟨38, 3, true, true, v8, [[int 0, int 0, int 0]]⟩)]) ∨ (∃ (a : Unit) (k : Unit), (.inr (.inr (.inl a))) = j9 ∧ y = .ifc 138 (.agg []) ∧ H' = hk [(1, ⟨46, 4, true, true, v6, [[lst 3 GLayer.av a3.Layers, int a3.Pend.a0, int a3.Pend.a1, int a3.Pend.a2]]⟩), (2, ⟨46, 4, true, true, v7, [[.sc (.slice none 0 0), int 0, int 0, int 0]]⟩), (3, ⟨38, 3, true, true, v8, [[int 0, int 0, int 0]]⟩)]) ∨ (∃ (a : Unit) (k : Unit), (.inr (.inr (.inr (.inl a)))) = j9 ∧ y = .ifc 137 (.agg []) ∧ H' = hk [(1, ⟨46, 4, true, true, v6, [[lst 3 GLayer.av a3.Layers, int a3.Pend.a0, int a3.Pend.a1, int a3.Pend.a2]]⟩), (2, ⟨46, 4, true, true, v7, [[.sc (.slice none 0 0), int 0, int 0, int 0]]⟩), (3, ⟨38, 3, true, true, v8, [[int 0, int 0, int 0]]⟩)]) ∨ (∃ (a : Unit) (k : Unit), (.inr (.inr (.inr (.inr a)))) = j9 ∧ y = .ifc 136 (.agg []) ∧ H' = hk [(1, ⟨46, 4, true, true, v6, [[lst 3 GLayer.av a3.Layers, int a3.Pend.a0, int a3.Pend.a1, int a3.Pend.a2]]⟩), (2, ⟨46, 4, true, true, v7, [[.sc (.slice none 0 0), int 0, int 0, int 0]]⟩), (3, ⟨38, 3, true, true, v8, [[int 0, int 0, int 0]]⟩)])) rfl rfl rfl (yl_call rfl rfl (.cons rfl (.cons rfl .nil)) cal42 ?_) ?_
  refine pcw (c := _) Tryz.func42 rfl rfl ?_; intro Q hret hnorm
  refine tc tbk 12 (.mk ?_)
  refine nb tbk h1 fun x10 h1 => ?_
  refine tr tbk 2 (.mk ?_)
  cases x10
  replace h1 := cf h1
  refine tc tbk 3 (.mk ?_)
  refine nb tbk h1 fun x11 h1 => ?_
  refine tr tbk 2 (.mk ?_)
  cases x11
  replace h1 := cf h1
  refine tc tbk 3 (.mk ?_)
  refine nb tbk h1 fun x12 h1 => ?_
  refine tr tbk 2 (.mk ?_)
  cases x12
  replace h1 := cf h1
  refine tc tbk 3 (.mk ?_)
  refine nb tbk h1 fun x13 h1 => ?_
  refine tr tbk 2 (.mk ?_)
  cases x13
  replace h1 := cf h1
  refine tc tbk 7 (.mk ?_)
  obtain rfl := nxt_e h1
  refine w_ret (hret _ _ (hk [(1, ⟨46, 4, true, true, v6, [[lst 3 GLayer.av a3.Layers, int a3.Pend.a0, int a3.Pend.a1, int a3.Pend.a2]]⟩), (2, ⟨46, 4, true, true, v7, [[.sc (.slice none 0 0), int 0, int 0, int 0]]⟩), (3, ⟨38, 3, true, true, v8, [[int 0, int 0, int 0]]⟩)]) (.tmp rfl .nil) (HK.le ⟨rfl, rfl, rfl, trivial⟩) ?_)
  exact (.inl ⟨(), (), rfl, rfl, rfl⟩)
  replace h1 := ct h1
  refine tc tbk 5 (.mk ?_)
  refine sY (yv_makeIface rfl Tryz.underlying140 (by intro _ h; cases h) rfl) ?_
  refine tr tbk 2 (.mk ?_)
  obtain rfl := nxt_e h1
  refine w_ret (hret _ _ (hk [(1, ⟨46, 4, true, true, v6, [[lst 3 GLayer.av a3.Layers, int a3.Pend.a0, int a3.Pend.a1, int a3.Pend.a2]]⟩), (2, ⟨46, 4, true, true, v7, [[.sc (.slice none 0 0), int 0, int 0, int 0]]⟩), (3, ⟨38, 3, true, true, v8, [[int 0, int 0, int 0]]⟩)]) (.tmp rfl .nil) (HK.le ⟨rfl, rfl, rfl, trivial⟩) ?_)
  exact (.inr (.inl ⟨(), (), rfl, rfl, rfl⟩))
  replace h1 := ct h1
  refine tc tbk 4 (.mk ?_)
  refine sY (yv_makeIface rfl Tryz.underlying138 (by intro _ h; cases h) rfl) ?_
  refine tr tbk 2 (.mk ?_)
  obtain rfl := nxt_e h1
  refine w_ret (hret _ _ (hk [(1, ⟨46, 4, true, true, v6, [[lst 3 GLayer.av a3.Layers, int a3.Pend.a0, int a3.Pend.a1, int a3.Pend.a2]]⟩), (2, ⟨46, 4, true, true, v7, [[.sc (.slice none 0 0), int 0, int 0, int 0]]⟩), (3, ⟨38, 3, true, true, v8, [[int 0, int 0, int 0]]⟩)]) (.tmp rfl .nil) (HK.le ⟨rfl, rfl, rfl, trivial⟩) ?_)
  exact (.inr (.inr (.inl ⟨(), (), rfl, rfl, rfl⟩)))
  replace h1 := ct h1
  refine tc tbk 4 (.mk ?_)
  refine sY (yv_makeIface rfl Tryz.underlying137 (by intro _ h; cases h) rfl) ?_
  refine tr tbk 2 (.mk ?_)
  obtain rfl := nxt_e h1
  refine w_ret (hret _ _ (hk [(1, ⟨46, 4, true, true, v6, [[lst 3 GLayer.av a3.Layers, int a3.Pend.a0, int a3.Pend.a1, int a3.Pend.a2]]⟩), (2, ⟨46, 4, true, true, v7, [[.sc (.slice none 0 0), int 0, int 0, int 0]]⟩), (3, ⟨38, 3, true, true, v8, [[int 0, int 0, int 0]]⟩)]) (.tmp rfl .nil) (HK.le ⟨rfl, rfl, rfl, trivial⟩) ?_)
  exact (.inr (.inr (.inr (.inl ⟨(), (), rfl, rfl, rfl⟩))))
  replace h1 := ct h1
  refine tc tbk 4 (.mk ?_)
  refine sY (yv_makeIface rfl Tryz.underlying136 (by intro _ h; cases h) rfl) ?_
  refine tr tbk 2 (.mk ?_)
  obtain rfl := nxt_e h1
  refine w_ret (hret _ _ (hk [(1, ⟨46, 4, true, true, v6, [[lst 3 GLayer.av a3.Layers, int a3.Pend.a0, int a3.Pend.a1, int a3.Pend.a2]]⟩), (2, ⟨46, 4, true, true, v7, [[.sc (.slice none 0 0), int 0, int 0, int 0]]⟩), (3, ⟨38, 3, true, true, v8, [[int 0, int 0, int 0]]⟩)]) (.tmp rfl .nil) (HK.le ⟨rfl, rfl, rfl, trivial⟩) ?_)
  exact (.inr (.inr (.inr (.inr ⟨(), (), rfl, rfl, rfl⟩))))
  rintro y _ (⟨_, _, rfl, hc, rfl⟩ | ⟨_, _, rfl, hc, rfl⟩ | ⟨_, _, rfl, hc, rfl⟩ | ⟨_, _, rfl, hc, rfl⟩ | ⟨_, _, rfl, hc, rfl⟩)
  replace h0 := selr_l h0
  subst hc
  refine tr tbk 6 (.mk ?_)
  refine sY (yv_ifeqN rfl Tryz.underlying96 rfl rfl) ?_
  refine tr tbk 5 (.mk ?_)
  obtain ⟨x14, e14, h0⟩ := bind_e h0
  refine sC cal43 (d_pool_own_c e14) ?_
  refine tr tbk 1 (.mk ?_)
  refine sS ⟨46, 4, true, true, v7, [[lst 3 GLayer.av x14.Layers, int x14.Pend.a0, int x14.Pend.a1, int x14.Pend.a2]]⟩ sh46 ?_
  refine sS ⟨38, 3, true, true, v8, [[int 0, int 0, int 0]]⟩ sh38 ?_
  refine tr tbk 3 (.mk ?_)
  obtain rfl := nxt_e h0
  refine wR hret (rC sh46 (rC sh38 (rT (rT .nil)))) ?_
  exact .refl _
  replace h0 := selr_r h0
  replace h0 := selr_l h0
  subst hc
  refine tr tbk 6 (.mk ?_)
  refine sY (yv_ifeq rfl Tryz.underlying96 rfl rfl) ?_
  refine tr tbk 5 (.mk ?_)
  refine jn h0 [3, 4, 7, 10, 11, 12, 13, 14] [1, 2, 3] (fun (a : Bool) (k : Unit) => [(32, boo a)]) (fun a k => []) ⟨fun j15 h1 => ?_, ?_⟩
  refine tc tbk 2 (.mk ?_)
  refine nb tbk h1 fun x16 h1 => ?_
  refine tr tbk 1 (.mk ?_)
  cases x16
  replace h1 := cf h1
  refine tr tbk 1 (.mk ?_)
  refine nb tbk h1 fun x17 h1 => ?_
  refine tr tbk 2 (.mk ?_)
  exact lf h1 () leA
  replace h1 := ct h1
  refine tr tbk 4 (.mk ?_)
  exact lf h1 () leA
  rintro y5_1 _ h0
  replace h0 := asrt_e h0
  obtain ⟨rfl, h0⟩ := h0
  refine tc tbk 4 (.mk ?_)
  refine sA 4 z38 fun v18 => ?_
  refine tr tbk 3 (.mk ?_)
  refine sA 5 z46 fun v19 => ?_
  refine tr tbk 8 (.mk ?_)
  obtain ⟨j20, h1, h0⟩ := bind_e h0
  refine rse (Out := fun y H' => (∃ (a : Unit) (k : Unit), a = j20 ∧ y = boo false ∧ H' = hk [(1, ⟨46, 4, true, true, v6, [[lst 3 GLayer.av a3.Layers, int a3.Pend.a0, int a3.Pend.a1, int a3.Pend.a2]]⟩), (2, ⟨46, 4, true, true, v7, [[.sc (.slice none 0 0), int 0, int 0, int 0]]⟩), (3, ⟨38, 3, true, true, v8, [[int 0, int 0, int 0]]⟩), (4, ⟨38, 3, true, true, v18, [[int 0, int 0, int 0]]⟩), (5, ⟨46, 4, true, true, v19, [[.sc (.slice none 0 0), int 0, int 0, int 0]]⟩)])) rfl rfl rfl (yl_call rfl rfl (.cons rfl .nil) cal48 ?_) ?_
  refine pcw (c := _) Tryz.func48 rfl rfl ?_; intro Q hret hnorm
  refine tc tbk 7 (.mk ?_)
  refine sY (yv_tassF rfl Tryz.underlying138 rfl rfl rfl zag138) ?_
  refine tr tbk 3 (.mk ?_)
  refine sA 6 z138 fun v21 => ?_
  refine sS ⟨138, 0, true, true, v21, [[]]⟩ sh138 ?_
  refine tr tbk 7 (.mk ?_)
  obtain rfl := nxt_e h1
  refine w_ret (hret _ _ (hk [(1, ⟨46, 4, true, true, v6, [[lst 3 GLayer.av a3.Layers, int a3.Pend.a0, int a3.Pend.a1, int a3.Pend.a2]]⟩), (2, ⟨46, 4, true, true, v7, [[.sc (.slice none 0 0), int 0, int 0, int 0]]⟩), (3, ⟨38, 3, true, true, v8, [[int 0, int 0, int 0]]⟩), (4, ⟨38, 3, true, true, v18, [[int 0, int 0, int 0]]⟩), (5, ⟨46, 4, true, true, v19, [[.sc (.slice none 0 0), int 0, int 0, int 0]]⟩)]) (.tmp rfl .nil) (HK.le ⟨rfl, rfl, rfl, rfl, rfl, trivial⟩) ?_)
  exact ⟨(), (), rfl, rfl, rfl⟩
  rintro y _ ⟨_, _, rfl, hc, rfl⟩
  subst hc
  refine tr tbk 16 (.mk ?_)
  obtain ⟨j22, h1, h0⟩ := bind_e h0
  refine rse (Out := fun y H' => (∃ (a : GPool × GLayer × Int) (k : Unit), a = j22 ∧ y = .tup [.agg [lst 3 GLayer.av a.1.Layers, int a.1.Pend.a0, int a.1.Pend.a1, int a.1.Pend.a2], .agg [int a.2.1.Qty, int a.2.1.Value, int a.2.1.Profit], int a.2.2] ∧ H' = hk [(1, ⟨46, 4, true, true, v6, [[lst 3 GLayer.av a3.Layers, int a3.Pend.a0, int a3.Pend.a1, int a3.Pend.a2]]⟩), (2, ⟨46, 4, true, true, v7, [[.sc (.slice none 0 0), int 0, int 0, int 0]]⟩), (3, ⟨38, 3, true, true, v8, [[int 0, int 0, int 0]]⟩), (4, ⟨38, 3, true, true, v18, [[int 0, int 0, int 0]]⟩), (5, ⟨46, 4, true, true, v19, [[.sc (.slice none 0 0), int 0, int 0, int 0]]⟩)])) rfl rfl rfl (yl_callI rfl rfl mth140_236 (.cons rfl (.cons rfl .nil)) cal236 ?_) ?_
  refine pcw (c := _) Tryz.func236 rfl rfl ?_; intro Q hret hnorm
  refine tc tbk 2 (.mk ?_)
  refine sB 7 fun v23 => ?_
  refine sB 8 fun v24 => ?_
  refine sA 9 z46 fun v25 => ?_
  refine sA 10 z38 fun v26 => ?_
  refine tr tbk 9 (.mk ?_)
  obtain ⟨x27, e27, h1⟩ := bind_e h1
  refine sC cal238 (d_stdcost_Out_c e27) ?_
  refine tr tbk 4 (.mk ?_)
  refine sA 11 z38 fun v28 => ?_
  refine tr tbk 1 (.mk ?_)
  refine sS ⟨38, 3, true, true, v28, [[int x27.2.1.Qty, int x27.2.1.Value, int x27.2.1.Profit]]⟩ sh38 ?_
  refine tr tbk 3 (.mk ?_)
  refine c_drawE [0, 0, 3, 0, 0, 7, 47, 127] (rl [(0, [8]), (3, [11])] []) (rl [(5, [11]), (6, [])] [8, 11]) (rl [(5, false), (6, false)] true) [0, 1, 2, 3, 4, 5, 6, 7] mixed (by kernel_rfl) ?_; intro K hK
  refine eL sh46 ?_
  refine eM ?_
  obtain ⟨x29, e29, h1⟩ := bind_e h1
  refine eP (fun H hH => yv_callP rfl rfl (.cons rfl (.cons rfl .nil)) cal70 (CvL.refl _) (d_pool_with_c e29)) ?_
  refine eL sh38 ?_
  refine eM ?_
  refine de_eff0 rfl rfl rfl rfl (Yield.weak (yl_ob (ob' := (⟨46, 4, true, true, v25, [[lst 3 GLayer.av x29.Layers, int x29.Pend.a0, int x29.Pend.a1, int x29.Pend.a2]]⟩ : AObj)) (yl_store rfl sh46 rfl rfl rfl rfl rfl rfl rfl rfl rfl) rfl) (fun _ h => h) (fun _ _ => trivial)) (by rintro _ _ ⟨rfl, rfl⟩; exact ⟨rfl, trivial⟩) ?_; rintro _ _ ⟨rfl, rfl⟩
  refine de_eff0 rfl rfl rfl rfl (Yield.weak (yl_ob (ob' := (⟨38, 3, true, true, v26, [[int x27.2.1.Qty, int x27.2.1.Value, int x27.2.1.Profit]]⟩ : AObj)) (yl_store rfl sh38 rfl rfl rfl rfl rfl rfl rfl rfl rfl) rfl) (fun _ h => h) (fun _ _ => trivial)) (by rintro _ _ ⟨rfl, rfl⟩; exact trivial) ?_; rintro _ _ ⟨rfl, rfl⟩
  refine eA ?_
  refine de_nil (hK _ ?_)
  obtain rfl := nxt_e h1
  refine w_ret (hret _ _ (hk [(1, ⟨46, 4, true, true, v6, [[lst 3 GLayer.av a3.Layers, int a3.Pend.a0, int a3.Pend.a1, int a3.Pend.a2]]⟩), (2, ⟨46, 4, true, true, v7, [[.sc (.slice none 0 0), int 0, int 0, int 0]]⟩), (3, ⟨38, 3, true, true, v8, [[int 0, int 0, int 0]]⟩), (4, ⟨38, 3, true, true, v18, [[int 0, int 0, int 0]]⟩), (5, ⟨46, 4, true, true, v19, [[.sc (.slice none 0 0), int 0, int 0, int 0]]⟩)]) (.cell rfl (.pt rfl rfl rfl) sh46 rfl (.cell rfl (.pt rfl rfl rfl) sh38 rfl (.tmp rfl .nil))) (HK.le ⟨rfl, rfl, rfl, rfl, rfl, trivial⟩) ?_)
  exact ⟨(x29, x27.2.1, x27.2.2), (), rfl, rfl, rfl⟩
  rintro y _ ⟨⟨y7_1, y7_2, y7_3⟩, _, rfl, hc, rfl⟩
  replace h0 := p2_e h0
  replace h0 := p2_e h0
  subst hc
  refine tr tbk 4 (.mk ?_)
  refine sS ⟨46, 4, true, true, v19, [[lst 3 GLayer.av y7_1.Layers, int y7_1.Pend.a0, int y7_1.Pend.a1, int y7_1.Pend.a2]]⟩ sh46 ?_
  refine sS ⟨38, 3, true, true, v18, [[int y7_2.Qty, int y7_2.Value, int y7_2.Profit]]⟩ sh38 ?_
  refine tr tbk 6 (.mk ?_)
  refine nb tbk h0 fun x30 h0 => ?_
  refine tr tbk 1 (.mk ?_)
  cases x30
  replace h0 := cf h0
  refine tc tbk 3 (.mk ?_)
  refine c_drawE [0, 0, 0, 1, 11, 31, 63] (rl [(0, [5]), (1, [4])] []) (rl [(3, [4]), (4, [])] [4, 5]) (rl [(3, false), (4, false)] true) [0, 1, 2, 3, 4, 5, 6] mixed (by kernel_rfl) ?_; intro K hK
  refine eL sh46 ?_
  refine eL sh38 ?_
  refine eM ?_
  refine de_eff0 rfl rfl rfl rfl (Yield.weak (yl_ob (ob' := (⟨46, 4, true, true, v7, [[lst 3 GLayer.av y7_1.Layers, int y7_1.Pend.a0, int y7_1.Pend.a1, int y7_1.Pend.a2]]⟩ : AObj)) (yl_store rfl sh46 rfl rfl rfl rfl rfl rfl rfl rfl rfl) rfl) (fun _ h => h) (fun _ _ => trivial)) (by rintro _ _ ⟨rfl, rfl⟩; exact ⟨rfl, trivial⟩) ?_; rintro _ _ ⟨rfl, rfl⟩
  refine de_eff0 rfl rfl rfl rfl (Yield.weak (yl_ob (ob' := (⟨38, 3, true, true, v8, [[int y7_2.Qty, int y7_2.Value, int y7_2.Profit]]⟩ : AObj)) (yl_store rfl sh38 rfl rfl rfl rfl rfl rfl rfl rfl rfl) rfl) (fun _ h => h) (fun _ _ => trivial)) (by rintro _ _ ⟨rfl, rfl⟩; exact trivial) ?_; rintro _ _ ⟨rfl, rfl⟩
  iterate 2 refine eA ?_
  refine de_nil (hK _ ?_)
  obtain rfl := nxt_e h0
  refine wR hret (rC sh46 (rC sh38 (rT (rT .nil)))) ?_
  exact .refl _
  replace h0 := ct h0
  refine tc tbk 4 (.mk ?_)
  obtain ⟨x31, e31, h0⟩ := bind_e h0
  refine sC cal43 (d_pool_own_c e31) ?_
  refine tr tbk 2 (.mk ?_)
  refine sS ⟨46, 4, true, true, v7, [[lst 3 GLayer.av x31.Layers, int x31.Pend.a0, int x31.Pend.a1, int x31.Pend.a2]]⟩ sh46 ?_
  refine sS ⟨38, 3, true, true, v8, [[int 0, int 0, int 0]]⟩ sh38 ?_
  refine tr tbk 3 (.mk ?_)
  obtain rfl := nxt_e h0
  refine wR hret (rC sh46 (rC sh38 (rT (rT .nil)))) ?_
  exact .refl _
  replace h0 := selr_r h0
  replace h0 := selr_r h0
  replace h0 := selr_l h0
  subst hc
  refine tr tbk 6 (.mk ?_)
  refine sY (yv_ifeq rfl Tryz.underlying96 rfl rfl) ?_
  refine tr tbk 5 (.mk ?_)
  refine jn h0 [3, 4, 7, 10, 11, 12, 13, 14] [1, 2, 3] (fun (a : Bool) (k : Unit) => [(32, boo a)]) (fun a k => []) ⟨fun j32 h1 => ?_, ?_⟩
  refine tc tbk 2 (.mk ?_)
  refine nb tbk h1 fun x33 h1 => ?_
  refine tr tbk 1 (.mk ?_)
  cases x33
  replace h1 := cf h1
  refine tr tbk 1 (.mk ?_)
  refine nb tbk h1 fun x34 h1 => ?_
  refine tr tbk 2 (.mk ?_)
  exact lf h1 () leA
  replace h1 := ct h1
  refine tr tbk 4 (.mk ?_)
  exact lf h1 () leA
  rintro y5_1 _ h0
  replace h0 := asrt_e h0
  obtain ⟨rfl, h0⟩ := h0
  refine tc tbk 4 (.mk ?_)
  refine sA 4 z38 fun v35 => ?_
  refine tr tbk 3 (.mk ?_)
  refine sA 5 z46 fun v36 => ?_
  refine tr tbk 8 (.mk ?_)
  obtain ⟨j37, h1, h0⟩ := bind_e h0
  refine rse (Out := fun y H' => (∃ (a : Unit) (k : Unit), a = j37 ∧ y = boo true ∧ H' = hk [(1, ⟨46, 4, true, true, v6, [[lst 3 GLayer.av a3.Layers, int a3.Pend.a0, int a3.Pend.a1, int a3.Pend.a2]]⟩), (2, ⟨46, 4, true, true, v7, [[.sc (.slice none 0 0), int 0, int 0, int 0]]⟩), (3, ⟨38, 3, true, true, v8, [[int 0, int 0, int 0]]⟩), (4, ⟨38, 3, true, true, v35, [[int 0, int 0, int 0]]⟩), (5, ⟨46, 4, true, true, v36, [[.sc (.slice none 0 0), int 0, int 0, int 0]]⟩)])) rfl rfl rfl (yl_call rfl rfl (.cons rfl .nil) cal48 ?_) ?_
  refine pcw (c := _) Tryz.func48 rfl rfl ?_; intro Q hret hnorm
  refine tc tbk 7 (.mk ?_)
  refine sY (yv_tassT rfl Tryz.underlying138 rfl rfl) ?_
  refine tr tbk 3 (.mk ?_)
  refine sA 6 z138 fun v38 => ?_
  refine sS ⟨138, 0, true, true, v38, [[]]⟩ sh138 ?_
  refine tr tbk 7 (.mk ?_)
  obtain rfl := nxt_e h1
  refine w_ret (hret _ _ (hk [(1, ⟨46, 4, true, true, v6, [[lst 3 GLayer.av a3.Layers, int a3.Pend.a0, int a3.Pend.a1, int a3.Pend.a2]]⟩), (2, ⟨46, 4, true, true, v7, [[.sc (.slice none 0 0), int 0, int 0, int 0]]⟩), (3, ⟨38, 3, true, true, v8, [[int 0, int 0, int 0]]⟩), (4, ⟨38, 3, true, true, v35, [[int 0, int 0, int 0]]⟩), (5, ⟨46, 4, true, true, v36, [[.sc (.slice none 0 0), int 0, int 0, int 0]]⟩)]) (.tmp rfl .nil) (HK.le ⟨rfl, rfl, rfl, rfl, rfl, trivial⟩) ?_)
  exact ⟨(), (), rfl, rfl, rfl⟩
  rintro y _ ⟨_, _, rfl, hc, rfl⟩
  subst hc
  refine tr tbk 2 (.mk ?_)
  refine nb tbk h0 fun x39 h0 => ?_
  refine tr tbk 8 (.mk ?_)
  replace h0 := asrt_e h0
  obtain ⟨rfl, h0⟩ := h0
  refine tc tbk 5 (.mk ?_)
  obtain ⟨j40, h1, h0⟩ := bind_e h0
  refine rse (Out := fun y H' => (∃ (a : GPool × GLayer × Int) (k : Unit), a = j40 ∧ y = .tup [.agg [lst 3 GLayer.av a.1.Layers, int a.1.Pend.a0, int a.1.Pend.a1, int a.1.Pend.a2], .agg [int a.2.1.Qty, int a.2.1.Value, int a.2.1.Profit], int a.2.2] ∧ H' = hk [(1, ⟨46, 4, true, true, v6, [[lst 3 GLayer.av a3.Layers, int a3.Pend.a0, int a3.Pend.a1, int a3.Pend.a2]]⟩), (2, ⟨46, 4, true, true, v7, [[.sc (.slice none 0 0), int 0, int 0, int 0]]⟩), (3, ⟨38, 3, true, true, v8, [[int 0, int 0, int 0]]⟩), (4, ⟨38, 3, true, true, v35, [[int 0, int 0, int 0]]⟩), (5, ⟨46, 4, true, true, v36, [[.sc (.slice none 0 0), int 0, int 0, int 0]]⟩)])) rfl rfl rfl (yl_callI rfl rfl mth138_232 (.cons rfl (.cons rfl .nil)) cal232 ?_) ?_
  refine pcw (c := _) Tryz.func232 rfl rfl ?_; intro Q hret hnorm
  refine tc tbk 2 (.mk ?_)
  refine sB 12 fun v41 => ?_
  refine sB 13 fun v42 => ?_
  refine sA 14 z46 fun v43 => ?_
  refine sA 15 z38 fun v44 => ?_
  refine tr tbk 6 (.mk ?_)
  obtain ⟨x45, e45, h1⟩ := bind_e h1
  refine sC cal234 (d_pavg_Out_c e45) ?_
  refine tr tbk 3 (.mk ?_)
  refine sS ⟨46, 4, true, true, v43, [[lst 3 GLayer.av x45.1.Layers, int x45.1.Pend.a0, int x45.1.Pend.a1, int x45.1.Pend.a2]]⟩ sh46 ?_
  refine sS ⟨38, 3, true, true, v44, [[int x45.2.1.Qty, int x45.2.1.Value, int x45.2.1.Profit]]⟩ sh38 ?_
  refine tr tbk 2 (.mk ?_)
  obtain rfl := nxt_e h1
  refine w_ret (hret _ _ (hk [(1, ⟨46, 4, true, true, v6, [[lst 3 GLayer.av a3.Layers, int a3.Pend.a0, int a3.Pend.a1, int a3.Pend.a2]]⟩), (2, ⟨46, 4, true, true, v7, [[.sc (.slice none 0 0), int 0, int 0, int 0]]⟩), (3, ⟨38, 3, true, true, v8, [[int 0, int 0, int 0]]⟩), (4, ⟨38, 3, true, true, v35, [[int 0, int 0, int 0]]⟩), (5, ⟨46, 4, true, true, v36, [[.sc (.slice none 0 0), int 0, int 0, int 0]]⟩)]) (.cell rfl (.pt rfl rfl rfl) sh46 rfl (.cell rfl (.pt rfl rfl rfl) sh38 rfl (.tmp rfl .nil))) (HK.le ⟨rfl, rfl, rfl, rfl, rfl, trivial⟩) ?_)
  exact ⟨(x45.1, x45.2.1, x45.2.2), (), rfl, rfl, rfl⟩
  rintro y _ ⟨⟨y8_1, y8_2, y8_3⟩, _, rfl, hc, rfl⟩
  replace h0 := p2_e h0
  replace h0 := p2_e h0
  subst hc
  refine tr tbk 4 (.mk ?_)
  refine sS ⟨46, 4, true, true, v36, [[lst 3 GLayer.av y8_1.Layers, int y8_1.Pend.a0, int y8_1.Pend.a1, int y8_1.Pend.a2]]⟩ sh46 ?_
  refine sS ⟨38, 3, true, true, v35, [[int y8_2.Qty, int y8_2.Value, int y8_2.Profit]]⟩ sh38 ?_
  refine tr tbk 6 (.mk ?_)
  refine nb tbk h0 fun x46 h0 => ?_
  refine tr tbk 1 (.mk ?_)
  cases x46
  replace h0 := cf h0
  refine tc tbk 3 (.mk ?_)
  refine c_drawE [0, 0, 0, 1, 11, 31, 63] (rl [(0, [5]), (1, [4])] []) (rl [(3, [4]), (4, [])] [4, 5]) (rl [(3, false), (4, false)] true) [0, 1, 2, 3, 4, 5, 6] mixed (by kernel_rfl) ?_; intro K hK
  refine eL sh46 ?_
  refine eL sh38 ?_
  refine eM ?_
  refine de_eff0 rfl rfl rfl rfl (Yield.weak (yl_ob (ob' := (⟨46, 4, true, true, v7, [[lst 3 GLayer.av y8_1.Layers, int y8_1.Pend.a0, int y8_1.Pend.a1, int y8_1.Pend.a2]]⟩ : AObj)) (yl_store rfl sh46 rfl rfl rfl rfl rfl rfl rfl rfl rfl) rfl) (fun _ h => h) (fun _ _ => trivial)) (by rintro _ _ ⟨rfl, rfl⟩; exact ⟨rfl, trivial⟩) ?_; rintro _ _ ⟨rfl, rfl⟩
  refine de_eff0 rfl rfl rfl rfl (Yield.weak (yl_ob (ob' := (⟨38, 3, true, true, v8, [[int y8_2.Qty, int y8_2.Value, int y8_2.Profit]]⟩ : AObj)) (yl_store rfl sh38 rfl rfl rfl rfl rfl rfl rfl rfl rfl) rfl) (fun _ h => h) (fun _ _ => trivial)) (by rintro _ _ ⟨rfl, rfl⟩; exact trivial) ?_; rintro _ _ ⟨rfl, rfl⟩
  iterate 2 refine eA ?_
  refine de_nil (hK _ ?_)
  obtain rfl := nxt_e h0
  refine wR hret (rC sh46 (rC sh38 (rT (rT .nil)))) ?_
  exact .refl _
  replace h0 := ct h0
  refine tc tbk 4 (.mk ?_)
  obtain ⟨x47, e47, h0⟩ := bind_e h0
  refine sC cal43 (d_pool_own_c e47) ?_
  refine tr tbk 2 (.mk ?_)
  refine sS ⟨46, 4, true, true, v7, [[lst 3 GLayer.av x47.Layers, int x47.Pend.a0, int x47.Pend.a1, int x47.Pend.a2]]⟩ sh46 ?_
  refine sS ⟨38, 3, true, true, v8, [[int 0, int 0, int 0]]⟩ sh38 ?_
  refine tr tbk 3 (.mk ?_)
  obtain rfl := nxt_e h0
  refine wR hret (rC sh46 (rC sh38 (rT (rT .nil)))) ?_
  exact .refl _
  replace h0 := selr_r h0
  replace h0 := selr_r h0
  replace h0 := selr_r h0
  replace h0 := selr_l h0
  subst hc
  refine tr tbk 6 (.mk ?_)
  refine sY (yv_ifeq rfl Tryz.underlying96 rfl rfl) ?_
  refine tr tbk 5 (.mk ?_)
  refine jn h0 [3, 4, 7, 10, 11, 12, 13, 14] [1, 2, 3] (fun (a : Bool) (k : Unit) => [(32, boo a)]) (fun a k => []) ⟨fun j48 h1 => ?_, ?_⟩
  refine tc tbk 2 (.mk ?_)
  refine nb tbk h1 fun x49 h1 => ?_
  refine tr tbk 1 (.mk ?_)
  cases x49
  replace h1 := cf h1
  refine tr tbk 1 (.mk ?_)
  refine nb tbk h1 fun x50 h1 => ?_
  refine tr tbk 2 (.mk ?_)
  exact lf h1 () leA
  replace h1 := ct h1
  refine tr tbk 4 (.mk ?_)
  exact lf h1 () leA
  rintro y5_1 _ h0
  replace h0 := asrt_e h0
  obtain ⟨rfl, h0⟩ := h0
  refine tc tbk 4 (.mk ?_)
  refine sA 4 z38 fun v51 => ?_
  refine tr tbk 3 (.mk ?_)
  refine sA 5 z46 fun v52 => ?_
  refine tr tbk 8 (.mk ?_)
  obtain ⟨j53, h1, h0⟩ := bind_e h0
  refine rse (Out := fun y H' => (∃ (a : Unit) (k : Unit), a = j53 ∧ y = boo false ∧ H' = hk [(1, ⟨46, 4, true, true, v6, [[lst 3 GLayer.av a3.Layers, int a3.Pend.a0, int a3.Pend.a1, int a3.Pend.a2]]⟩), (2, ⟨46, 4, true, true, v7, [[.sc (.slice none 0 0), int 0, int 0, int 0]]⟩), (3, ⟨38, 3, true, true, v8, [[int 0, int 0, int 0]]⟩), (4, ⟨38, 3, true, true, v51, [[int 0, int 0, int 0]]⟩), (5, ⟨46, 4, true, true, v52, [[.sc (.slice none 0 0), int 0, int 0, int 0]]⟩)])) rfl rfl rfl (yl_call rfl rfl (.cons rfl .nil) cal48 ?_) ?_
  refine pcw (c := _) Tryz.func48 rfl rfl ?_; intro Q hret hnorm
  refine tc tbk 7 (.mk ?_)
  refine sY (yv_tassF rfl Tryz.underlying138 rfl rfl rfl zag138) ?_
  refine tr tbk 3 (.mk ?_)
  refine sA 6 z138 fun v54 => ?_
  refine sS ⟨138, 0, true, true, v54, [[]]⟩ sh138 ?_
  refine tr tbk 7 (.mk ?_)
  obtain rfl := nxt_e h1
  refine w_ret (hret _ _ (hk [(1, ⟨46, 4, true, true, v6, [[lst 3 GLayer.av a3.Layers, int a3.Pend.a0, int a3.Pend.a1, int a3.Pend.a2]]⟩), (2, ⟨46, 4, true, true, v7, [[.sc (.slice none 0 0), int 0, int 0, int 0]]⟩), (3, ⟨38, 3, true, true, v8, [[int 0, int 0, int 0]]⟩), (4, ⟨38, 3, true, true, v51, [[int 0, int 0, int 0]]⟩), (5, ⟨46, 4, true, true, v52, [[.sc (.slice none 0 0), int 0, int 0, int 0]]⟩)]) (.tmp rfl .nil) (HK.le ⟨rfl, rfl, rfl, rfl, rfl, trivial⟩) ?_)
  exact ⟨(), (), rfl, rfl, rfl⟩
  rintro y _ ⟨_, _, rfl, hc, rfl⟩
  subst hc
  refine tr tbk 16 (.mk ?_)
  obtain ⟨j55, h1, h0⟩ := bind_e h0
  refine rse (Out := fun y H' => (∃ (a : GPool × GLayer × Int) (k : Unit), a = j55 ∧ y = .tup [.agg [lst 3 GLayer.av a.1.Layers, int a.1.Pend.a0, int a.1.Pend.a1, int a.1.Pend.a2], .agg [int a.2.1.Qty, int a.2.1.Value, int a.2.1.Profit], int a.2.2] ∧ H' = hk [(1, ⟨46, 4, true, true, v6, [[lst 3 GLayer.av a3.Layers, int a3.Pend.a0, int a3.Pend.a1, int a3.Pend.a2]]⟩), (2, ⟨46, 4, true, true, v7, [[.sc (.slice none 0 0), int 0, int 0, int 0]]⟩), (3, ⟨38, 3, true, true, v8, [[int 0, int 0, int 0]]⟩), (4, ⟨38, 3, true, true, v51, [[int 0, int 0, int 0]]⟩), (5, ⟨46, 4, true, true, v52, [[.sc (.slice none 0 0), int 0, int 0, int 0]]⟩)])) rfl rfl rfl (yl_callI rfl rfl mth137_227 (.cons rfl (.cons rfl .nil)) cal227 ?_) ?_
  refine pcw (c := _) Tryz.func227 rfl rfl ?_; intro Q hret hnorm
  refine tc tbk 2 (.mk ?_)
  refine sB 16 fun v56 => ?_
  refine sB 17 fun v57 => ?_
  refine sA 18 z46 fun v58 => ?_
  refine sA 19 z38 fun v59 => ?_
  refine tr tbk 7 (.mk ?_)
  obtain ⟨x60, e60, h1⟩ := bind_e h1
  refine sC cal229 (d_mavg_Out_c e60) ?_
  refine tr tbk 4 (.mk ?_)
  refine sA 20 z38 fun v61 => ?_
  refine tr tbk 1 (.mk ?_)
  refine sS ⟨38, 3, true, true, v61, [[int x60.2.1.Qty, int x60.2.1.Value, int x60.2.1.Profit]]⟩ sh38 ?_
  refine tr tbk 3 (.mk ?_)
  refine c_drawE [0, 0, 3, 0, 0, 7, 47, 127] (rl [(0, [17]), (3, [20])] []) (rl [(5, [20]), (6, [])] [17, 20]) (rl [(5, false), (6, false)] true) [0, 1, 2, 3, 4, 5, 6, 7] mixed (by kernel_rfl) ?_; intro K hK
  refine eL sh46 ?_
  refine eM ?_
  obtain ⟨x62, e62, h1⟩ := bind_e h1
  refine eP (fun H hH => yv_callP rfl rfl (.cons rfl (.cons rfl .nil)) cal70 (CvL.refl _) (d_pool_with_c e62)) ?_
  refine eL sh38 ?_
  refine eM ?_
  refine de_eff0 rfl rfl rfl rfl (Yield.weak (yl_ob (ob' := (⟨46, 4, true, true, v58, [[lst 3 GLayer.av x62.Layers, int x62.Pend.a0, int x62.Pend.a1, int x62.Pend.a2]]⟩ : AObj)) (yl_store rfl sh46 rfl rfl rfl rfl rfl rfl rfl rfl rfl) rfl) (fun _ h => h) (fun _ _ => trivial)) (by rintro _ _ ⟨rfl, rfl⟩; exact ⟨rfl, trivial⟩) ?_; rintro _ _ ⟨rfl, rfl⟩
  refine de_eff0 rfl rfl rfl rfl (Yield.weak (yl_ob (ob' := (⟨38, 3, true, true, v59, [[int x60.2.1.Qty, int x60.2.1.Value, int x60.2.1.Profit]]⟩ : AObj)) (yl_store rfl sh38 rfl rfl rfl rfl rfl rfl rfl rfl rfl) rfl) (fun _ h => h) (fun _ _ => trivial)) (by rintro _ _ ⟨rfl, rfl⟩; exact trivial) ?_; rintro _ _ ⟨rfl, rfl⟩
  refine eA ?_
  refine de_nil (hK _ ?_)
  obtain rfl := nxt_e h1
  refine w_ret (hret _ _ (hk [(1, ⟨46, 4, true, true, v6, [[lst 3 GLayer.av a3.Layers, int a3.Pend.a0, int a3.Pend.a1, int a3.Pend.a2]]⟩), (2, ⟨46, 4, true, true, v7, [[.sc (.slice none 0 0), int 0, int 0, int 0]]⟩), (3, ⟨38, 3, true, true, v8, [[int 0, int 0, int 0]]⟩), (4, ⟨38, 3, true, true, v51, [[int 0, int 0, int 0]]⟩), (5, ⟨46, 4, true, true, v52, [[.sc (.slice none 0 0), int 0, int 0, int 0]]⟩)]) (.cell rfl (.pt rfl rfl rfl) sh46 rfl (.cell rfl (.pt rfl rfl rfl) sh38 rfl (.tmp rfl .nil))) (HK.le ⟨rfl, rfl, rfl, rfl, rfl, trivial⟩) ?_)
  exact ⟨(x62, x60.2.1, x60.2.2), (), rfl, rfl, rfl⟩
  rintro y _ ⟨⟨y9_1, y9_2, y9_3⟩, _, rfl, hc, rfl⟩
  replace h0 := p2_e h0
  replace h0 := p2_e h0
  subst hc
  refine tr tbk 4 (.mk ?_)
  refine sS ⟨46, 4, true, true, v52, [[lst 3 GLayer.av y9_1.Layers, int y9_1.Pend.a0, int y9_1.Pend.a1, int y9_1.Pend.a2]]⟩ sh46 ?_
  refine sS ⟨38, 3, true, true, v51, [[int y9_2.Qty, int y9_2.Value, int y9_2.Profit]]⟩ sh38 ?_
  refine tr tbk 6 (.mk ?_)
  refine nb tbk h0 fun x63 h0 => ?_
  refine tr tbk 1 (.mk ?_)
  cases x63
  replace h0 := cf h0
  refine tc tbk 3 (.mk ?_)
  refine c_drawE [0, 0, 0, 1, 11, 31, 63] (rl [(0, [5]), (1, [4])] []) (rl [(3, [4]), (4, [])] [4, 5]) (rl [(3, false), (4, false)] true) [0, 1, 2, 3, 4, 5, 6] mixed (by kernel_rfl) ?_; intro K hK
  refine eL sh46 ?_
  refine eL sh38 ?_
  refine eM ?_
  refine de_eff0 rfl rfl rfl rfl (Yield.weak (yl_ob (ob' := (⟨46, 4, true, true, v7, [[lst 3 GLayer.av y9_1.Layers, int y9_1.Pend.a0, int y9_1.Pend.a1, int y9_1.Pend.a2]]⟩ : AObj)) (yl_store rfl sh46 rfl rfl rfl rfl rfl rfl rfl rfl rfl) rfl) (fun _ h => h) (fun _ _ => trivial)) (by rintro _ _ ⟨rfl, rfl⟩; exact ⟨rfl, trivial⟩) ?_; rintro _ _ ⟨rfl, rfl⟩
  refine de_eff0 rfl rfl rfl rfl (Yield.weak (yl_ob (ob' := (⟨38, 3, true, true, v8, [[int y9_2.Qty, int y9_2.Value, int y9_2.Profit]]⟩ : AObj)) (yl_store rfl sh38 rfl rfl rfl rfl rfl rfl rfl rfl rfl) rfl) (fun _ h => h) (fun _ _ => trivial)) (by rintro _ _ ⟨rfl, rfl⟩; exact trivial) ?_; rintro _ _ ⟨rfl, rfl⟩
  iterate 2 refine eA ?_
  refine de_nil (hK _ ?_)
  obtain rfl := nxt_e h0
  refine wR hret (rC sh46 (rC sh38 (rT (rT .nil)))) ?_
  exact .refl _
  replace h0 := ct h0
  refine tc tbk 4 (.mk ?_)
  obtain ⟨x64, e64, h0⟩ := bind_e h0
  refine sC cal43 (d_pool_own_c e64) ?_
  refine tr tbk 2 (.mk ?_)
  refine sS ⟨46, 4, true, true, v7, [[lst 3 GLayer.av x64.Layers, int x64.Pend.a0, int x64.Pend.a1, int x64.Pend.a2]]⟩ sh46 ?_
  refine sS ⟨38, 3, true, true, v8, [[int 0, int 0, int 0]]⟩ sh38 ?_
  refine tr tbk 3 (.mk ?_)
  obtain rfl := nxt_e h0
  refine wR hret (rC sh46 (rC sh38 (rT (rT .nil)))) ?_
  exact .refl _
  replace h0 := selr_r h0
  replace h0 := selr_r h0
  replace h0 := selr_r h0
  replace h0 := selr_r h0
  subst hc
  refine tr tbk 6 (.mk ?_)
  refine sY (yv_ifeq rfl Tryz.underlying96 rfl rfl) ?_
  refine tr tbk 5 (.mk ?_)
  refine jn h0 [3, 4, 7, 10, 11, 12, 13, 14] [1, 2, 3] (fun (a : Bool) (k : Unit) => [(32, boo a)]) (fun a k => []) ⟨fun j65 h1 => ?_, ?_⟩
  refine tc tbk 2 (.mk ?_)
  refine nb tbk h1 fun x66 h1 => ?_
  refine tr tbk 1 (.mk ?_)
  cases x66
  replace h1 := cf h1
  refine tr tbk 1 (.mk ?_)
  refine nb tbk h1 fun x67 h1 => ?_
  refine tr tbk 2 (.mk ?_)
  exact lf h1 () leA
  replace h1 := ct h1
  refine tr tbk 4 (.mk ?_)
  exact lf h1 () leA
  rintro y5_1 _ h0
  replace h0 := asrt_e h0
  obtain ⟨rfl, h0⟩ := h0
  refine tc tbk 4 (.mk ?_)
  refine sA 4 z38 fun v68 => ?_
  refine tr tbk 3 (.mk ?_)
  refine sA 5 z46 fun v69 => ?_
  refine tr tbk 8 (.mk ?_)
  obtain ⟨j70, h1, h0⟩ := bind_e h0
  refine rse (Out := fun y H' => (∃ (a : Unit) (k : Unit), a = j70 ∧ y = boo false ∧ H' = hk [(1, ⟨46, 4, true, true, v6, [[lst 3 GLayer.av a3.Layers, int a3.Pend.a0, int a3.Pend.a1, int a3.Pend.a2]]⟩), (2, ⟨46, 4, true, true, v7, [[.sc (.slice none 0 0), int 0, int 0, int 0]]⟩), (3, ⟨38, 3, true, true, v8, [[int 0, int 0, int 0]]⟩), (4, ⟨38, 3, true, true, v68, [[int 0, int 0, int 0]]⟩), (5, ⟨46, 4, true, true, v69, [[.sc (.slice none 0 0), int 0, int 0, int 0]]⟩)])) rfl rfl rfl (yl_call rfl rfl (.cons rfl .nil) cal48 ?_) ?_
  refine pcw (c := _) Tryz.func48 rfl rfl ?_; intro Q hret hnorm
  refine tc tbk 7 (.mk ?_)
  refine sY (yv_tassF rfl Tryz.underlying138 rfl rfl rfl zag138) ?_
  refine tr tbk 3 (.mk ?_)
  refine sA 6 z138 fun v71 => ?_
  refine sS ⟨138, 0, true, true, v71, [[]]⟩ sh138 ?_
  refine tr tbk 7 (.mk ?_)
  obtain rfl := nxt_e h1
  refine w_ret (hret _ _ (hk [(1, ⟨46, 4, true, true, v6, [[lst 3 GLayer.av a3.Layers, int a3.Pend.a0, int a3.Pend.a1, int a3.Pend.a2]]⟩), (2, ⟨46, 4, true, true, v7, [[.sc (.slice none 0 0), int 0, int 0, int 0]]⟩), (3, ⟨38, 3, true, true, v8, [[int 0, int 0, int 0]]⟩), (4, ⟨38, 3, true, true, v68, [[int 0, int 0, int 0]]⟩), (5, ⟨46, 4, true, true, v69, [[.sc (.slice none 0 0), int 0, int 0, int 0]]⟩)]) (.tmp rfl .nil) (HK.le ⟨rfl, rfl, rfl, rfl, rfl, trivial⟩) ?_)
  exact ⟨(), (), rfl, rfl, rfl⟩
  rintro y _ ⟨_, _, rfl, hc, rfl⟩
  subst hc
  refine tr tbk 16 (.mk ?_)
  obtain ⟨j72, h1, h0⟩ := bind_e h0
  refine rse (Out := fun y H' => (∃ (a : GPool × GLayer × Int) (k : Unit), a = j72 ∧ y = .tup [.agg [lst 3 GLayer.av a.1.Layers, int a.1.Pend.a0, int a.1.Pend.a1, int a.1.Pend.a2], .agg [int a.2.1.Qty, int a.2.1.Value, int a.2.1.Profit], int a.2.2] ∧ H' = hk [(1, ⟨46, 4, true, true, v6, [[lst 3 GLayer.av a3.Layers, int a3.Pend.a0, int a3.Pend.a1, int a3.Pend.a2]]⟩), (2, ⟨46, 4, true, true, v7, [[.sc (.slice none 0 0), int 0, int 0, int 0]]⟩), (3, ⟨38, 3, true, true, v8, [[int 0, int 0, int 0]]⟩), (4, ⟨38, 3, true, true, v68, [[int 0, int 0, int 0]]⟩), (5, ⟨46, 4, true, true, v69, [[.sc (.slice none 0 0), int 0, int 0, int 0]]⟩)])) rfl rfl rfl (yl_callI rfl rfl mth136_216 (.cons rfl (.cons rfl .nil)) cal216 ?_) ?_
  refine pcw (c := _) Tryz.func216 rfl rfl ?_; intro Q hret hnorm
  refine tc tbk 2 (.mk ?_)
  refine sB 21 fun v73 => ?_
  refine sB 22 fun v74 => ?_
  refine sA 23 z46 fun v75 => ?_
  refine sA 24 z38 fun v76 => ?_
  refine tr tbk 7 (.mk ?_)
  obtain ⟨x77, e77, h1⟩ := bind_e h1
  refine sC cal218 (d_fifo_Out_c e77) ?_
  refine tr tbk 4 (.mk ?_)
  refine sA 25 z38 fun v78 => ?_
  refine tr tbk 1 (.mk ?_)
  refine sS ⟨38, 3, true, true, v78, [[int x77.2.1.Qty, int x77.2.1.Value, int x77.2.1.Profit]]⟩ sh38 ?_
  refine tr tbk 3 (.mk ?_)
  refine c_drawE [0, 0, 3, 0, 0, 7, 47, 127] (rl [(0, [22]), (3, [25])] []) (rl [(5, [25]), (6, [])] [22, 25]) (rl [(5, false), (6, false)] true) [0, 1, 2, 3, 4, 5, 6, 7] mixed (by kernel_rfl) ?_; intro K hK
  refine eL sh46 ?_
  refine eM ?_
  obtain ⟨x79, e79, h1⟩ := bind_e h1
  refine eP (fun H hH => yv_callP rfl rfl (.cons rfl (.cons rfl .nil)) cal70 (CvL.refl _) (d_pool_with_c e79)) ?_
  refine eL sh38 ?_
  refine eM ?_
  refine de_eff0 rfl rfl rfl rfl (Yield.weak (yl_ob (ob' := (⟨46, 4, true, true, v75, [[lst 3 GLayer.av x79.Layers, int x79.Pend.a0, int x79.Pend.a1, int x79.Pend.a2]]⟩ : AObj)) (yl_store rfl sh46 rfl rfl rfl rfl rfl rfl rfl rfl rfl) rfl) (fun _ h => h) (fun _ _ => trivial)) (by rintro _ _ ⟨rfl, rfl⟩; exact ⟨rfl, trivial⟩) ?_; rintro _ _ ⟨rfl, rfl⟩
  refine de_eff0 rfl rfl rfl rfl (Yield.weak (yl_ob (ob' := (⟨38, 3, true, true, v76, [[int x77.2.1.Qty, int x77.2.1.Value, int x77.2.1.Profit]]⟩ : AObj)) (yl_store rfl sh38 rfl rfl rfl rfl rfl rfl rfl rfl rfl) rfl) (fun _ h => h) (fun _ _ => trivial)) (by rintro _ _ ⟨rfl, rfl⟩; exact trivial) ?_; rintro _ _ ⟨rfl, rfl⟩
  refine eA ?_
  refine de_nil (hK _ ?_)
  obtain rfl := nxt_e h1
  refine w_ret (hret _ _ (hk [(1, ⟨46, 4, true, true, v6, [[lst 3 GLayer.av a3.Layers, int a3.Pend.a0, int a3.Pend.a1, int a3.Pend.a2]]⟩), (2, ⟨46, 4, true, true, v7, [[.sc (.slice none 0 0), int 0, int 0, int 0]]⟩), (3, ⟨38, 3, true, true, v8, [[int 0, int 0, int 0]]⟩), (4, ⟨38, 3, true, true, v68, [[int 0, int 0, int 0]]⟩), (5, ⟨46, 4, true, true, v69, [[.sc (.slice none 0 0), int 0, int 0, int 0]]⟩)]) (.cell rfl (.pt rfl rfl rfl) sh46 rfl (.cell rfl (.pt rfl rfl rfl) sh38 rfl (.tmp rfl .nil))) (HK.le ⟨rfl, rfl, rfl, rfl, rfl, trivial⟩) ?_)
  exact ⟨(x79, x77.2.1, x77.2.2), (), rfl, rfl, rfl⟩
  rintro y _ ⟨⟨y10_1, y10_2, y10_3⟩, _, rfl, hc, rfl⟩
  replace h0 := p2_e h0
  replace h0 := p2_e h0
  subst hc
  refine tr tbk 4 (.mk ?_)
  refine sS ⟨46, 4, true, true, v69, [[lst 3 GLayer.av y10_1.Layers, int y10_1.Pend.a0, int y10_1.Pend.a1, int y10_1.Pend.a2]]⟩ sh46 ?_
  refine sS ⟨38, 3, true, true, v68, [[int y10_2.Qty, int y10_2.Value, int y10_2.Profit]]⟩ sh38 ?_
  refine tr tbk 6 (.mk ?_)
  refine nb tbk h0 fun x80 h0 => ?_
  refine tr tbk 1 (.mk ?_)
  cases x80
  replace h0 := cf h0
  refine tc tbk 3 (.mk ?_)
  refine c_drawE [0, 0, 0, 1, 11, 31, 63] (rl [(0, [5]), (1, [4])] []) (rl [(3, [4]), (4, [])] [4, 5]) (rl [(3, false), (4, false)] true) [0, 1, 2, 3, 4, 5, 6] mixed (by kernel_rfl) ?_; intro K hK
  refine eL sh46 ?_
  refine eL sh38 ?_
  refine eM ?_
  refine de_eff0 rfl rfl rfl rfl (Yield.weak (yl_ob (ob' := (⟨46, 4, true, true, v7, [[lst 3 GLayer.av y10_1.Layers, int y10_1.Pend.a0, int y10_1.Pend.a1, int y10_1.Pend.a2]]⟩ : AObj)) (yl_store rfl sh46 rfl rfl rfl rfl rfl rfl rfl rfl rfl) rfl) (fun _ h => h) (fun _ _ => trivial)) (by rintro _ _ ⟨rfl, rfl⟩; exact ⟨rfl, trivial⟩) ?_; rintro _ _ ⟨rfl, rfl⟩
  refine de_eff0 rfl rfl rfl rfl (Yield.weak (yl_ob (ob' := (⟨38, 3, true, true, v8, [[int y10_2.Qty, int y10_2.Value, int y10_2.Profit]]⟩ : AObj)) (yl_store rfl sh38 rfl rfl rfl rfl rfl rfl rfl rfl rfl) rfl) (fun _ h => h) (fun _ _ => trivial)) (by rintro _ _ ⟨rfl, rfl⟩; exact trivial) ?_; rintro _ _ ⟨rfl, rfl⟩
  iterate 2 refine eA ?_
  refine de_nil (hK _ ?_)
  obtain rfl := nxt_e h0
  refine wR hret (rC sh46 (rC sh38 (rT (rT .nil)))) ?_
  exact .refl _
  replace h0 := ct h0
  refine tc tbk 4 (.mk ?_)
  obtain ⟨x81, e81, h0⟩ := bind_e h0
  refine sC cal43 (d_pool_own_c e81) ?_
  refine tr tbk 2 (.mk ?_)
  refine sS ⟨46, 4, true, true, v7, [[lst 3 GLayer.av x81.Layers, int x81.Pend.a0, int x81.Pend.a1, int x81.Pend.a2]]⟩ sh46 ?_
  refine sS ⟨38, 3, true, true, v8, [[int 0, int 0, int 0]]⟩ sh38 ?_
  refine tr tbk 3 (.mk ?_)
  obtain rfl := nxt_e h0
  refine wR hret (rC sh46 (rC sh38 (rT (rT .nil)))) ?_
  exact .refl _
def d_stock_Fetch (n : Nat) (a1 : GState) (a2 : Int) (a3 : Int) (a4 : Int) (a5 : Int) (a6 : Int) : Option (GState × GLayer × Bool × Int) :=
(d_stock_place a1 a2 a3 a4).bind fun x10 =>
bnd (decide (x10 < 0)) fun x11 =>
cond x11 (some ((a1 : GState), ((⟨0, 0, 0⟩ : GLayer) : GLayer), (false : Bool), (4 : Int))) ((ix a1.Master.Methods a2).bind fun x12 =>
(ix x12 a3).bind fun x13 =>
(ix a1.Master.Costs a2).bind fun x14 =>
(ix x14 a3).bind fun x15 =>
(ix a1.Ents a2).bind fun x16 =>
(ix x16.Pools x10).bind fun x17 =>
(d_pool_Out n x13 x15 x17 a5 a6).bind fun x18 =>
bnd x18.2.2.1 fun x20 =>
bnd (decide (x18.2.2.2 ≠ 0)) fun x21 =>
cond x21 (some ((a1 : GState), ((⟨0, 0, 0⟩ : GLayer) : GLayer), (false : Bool), (x18.2.2.2 : Int))) ((show Option ((Int × Bool × (List Int) × (List GRoll) × (List Int) × (List Int) × (List GEnt) × (List GPool))) from
(show Option ((Unit)) from
asrt (a1.Ents.length ≤ 68719476736) <|
(ix a1.Ents a2).bind fun x28 =>
some ()).bind <| fun _ =>
(ix a1.Ents a2).bind fun x29 =>
asrt (x29.Pools.length ≤ 68719476736) <|
(ix x29.Pools x10).bind fun x32 =>
bnd (x29.Pools.set (Int.toNat x10) (x18.1 : GPool)) fun x33 =>
some ((x29.Now : Int), (x29.Closed : Bool), (x29.Bal : List Int), (x29.Rolls : List GRoll), (x29.Prices : List Int), (x29.Down : List Int), (x29.Ahead : List GEnt), (x33 : List GPool))).bind <| p2 fun (y1_2 : Int) (q0 : Bool × (List Int) × (List GRoll) × (List Int) × (List Int) × (List GEnt) × (List GPool)) => (p2 fun (y1_3 : Bool) (q1 : (List Int) × (List GRoll) × (List Int) × (List Int) × (List GEnt) × (List GPool)) => (p2 fun (y1_5 : List Int) (q2 : (List GRoll) × (List Int) × (List Int) × (List GEnt) × (List GPool)) => (p2 fun (y1_6 : List GRoll) (q3 : (List Int) × (List Int) × (List GEnt) × (List GPool)) => (p2 fun (y1_7 : List Int) (q4 : (List Int) × (List GEnt) × (List GPool)) => (p2 fun (y1_8 : List Int) (q5 : (List GEnt) × (List GPool)) => (p2 fun (y1_9 : List GEnt) (y1_10 : List GPool) =>
(ix a1.Ents a2).bind fun x34 =>
some (((⟨a1.Master, (a1.Ents.set (Int.toNat a2) (⟨y1_2, y1_3, y1_10, y1_5, y1_6, y1_7, y1_8, y1_9⟩ : GEnt)), a1.Receipts, a1.Sales, a1.Transits, a1.Done⟩ : GState) : GState), (x18.2.1 : GLayer), (x20 : Bool), (0 : Int))) q5) q4) q3) q2) q1) q0))
theorem d_stock_Fetch_c {n : Nat} {a1 : GState} {a2 : Int} {a3 : Int} {a4 : Int} {a5 : Int} {a6 : Int} {r : GState × GLayer × Bool × Int} (h0 : d_stock_Fetch n a1 a2 a3 a4 a5 a6 = some r) : PP Tryz.prog 7 [.agg (GState.av a1), int a2, int a3, int a4, int a5, int a6] (fun y => y = .tup [.agg (GState.av r.1), .agg (GLayer.av r.2.1), boo r.2.2.1, int r.2.2.2]) := by
  unfold d_stock_Fetch at h0
  refine pp_of_pc (R0 := fun y H => Cv (frzH H) y (.tup [.agg (GState.av r.1), .agg (GLayer.av r.2.1), boo r.2.2.1, int r.2.2.2])) ?_ (fun y H hc => ⟨_, rfl, .tup (pvl4 ((fun (a : GState) => PV.agg (GState.pvc a)) (r.1)) ((fun (a : GLayer) => PV.agg (GLayer.pvc a)) (r.2.1)) (pvB (r.2.2.1)) (pvI (r.2.2.2))), hc⟩)
  refine pcw (c := _) Tryz.func7 rfl rfl ?_; intro Q hret hnorm
  refine tc tbk 2 (.mk ?_)
  refine sB 1 fun v7 => ?_
  refine sA 2 z32 fun v8 => ?_
  refine sA 3 z38 fun v9 => ?_
  refine tr tbk 9 (.mk ?_)
  obtain ⟨x10, e10, h0⟩ := bind_e h0
  refine sC cal16 (d_stock_place_c e10) ?_
  refine tr tbk 6 (.mk ?_)
  refine nb tbk h0 fun x11 h0 => ?_
  refine tr tbk 1 (.mk ?_)
  cases x11
  replace h0 := cf h0
  refine tc tbk 3 (.mk ?_)
  refine c_drawE [0, 1, 3, 0, 15, 31, 0, 127, 255, 0, 512, 1536, 0, 7680, 15872, 0, 65024, 130560, 0, 262144, 0, 1835008, 3932160, 8126464, 0, 33292288, 66846720, 0, 0, 536870911, 1073741823, 2147483647, 2147483647, 2147483647, 2147483647, 0, 38654705663, 111669149695, 257698037759, 549755813887] (rl [(0, [1]), (1, [1]), (2, [1]), (9, [1]), (10, [1]), (11, [1]), (18, [1]), (19, [1])] []) (rl [(36, []), (37, [])] [1]) (rl [(35, false), (36, false), (37, false)] true) [0, 1, 2, 3, 4, 5, 6, 7, 8, 9, 10, 11, 12, 13, 14, 15, 16, 17, 18, 19, 20, 21, 22, 23, 24, 25, 26, 27, 28, 29, 30, 31, 32, 33, 34, 35, 36, 37, 38, 39] mixed (by kernel_rfl) ?_; intro K hK
  refine eF fo32_0 ?_
  refine eF fo25_3 ?_
  refine eL sh23 ?_
  refine eM ?_
  obtain ⟨x12, e12, h0⟩ := bind_e h0
  refine eP (fun H hH => yv_ixT rfl Tryz.underlying23 sh22 rfl rfl e12) ?_
  refine eP (fun H hH => yv_load rfl sh22 rfl (.pp _) rfl) ?_
  refine eM ?_
  obtain ⟨x13, e13, h0⟩ := bind_e h0
  refine eP (fun H hH => yv_ixT rfl Tryz.underlying22 sh3 rfl rfl e13) ?_
  refine eP (fun H hH => yv_load rfl sh3 rfl (.pp _) rfl) ?_
  refine eF fo32_0 ?_
  refine eF fo25_4 ?_
  refine eL sh23 ?_
  refine eM ?_
  obtain ⟨x14, e14, h0⟩ := bind_e h0
  refine eP (fun H hH => yv_ixT rfl Tryz.underlying23 sh22 rfl rfl e14) ?_
  refine eP (fun H hH => yv_load rfl sh22 rfl (.pp _) rfl) ?_
  refine eM ?_
  obtain ⟨x15, e15, h0⟩ := bind_e h0
  refine eP (fun H hH => yv_ixT rfl Tryz.underlying22 sh3 rfl rfl e15) ?_
  refine eP (fun H hH => yv_load rfl sh3 rfl (.pp _) rfl) ?_
  refine eF fo32_1 ?_
  refine eL sh27 ?_
  refine eM ?_
  obtain ⟨x16, e16, h0⟩ := bind_e h0
  refine eP (fun H hH => yv_to (y := .pp [int x16.Now, boo x16.Closed, lst 4 GPool.av x16.Pools, lst 1 fI x16.Bal, lst 11 GRoll.av x16.Rolls, lst 1 fI x16.Prices, lst 1 fI x16.Down, lst 8 GEnt.av x16.Ahead]) (yv_ixT rfl Tryz.underlying27 sh64 rfl rfl e16) (congrArg AV.pp (GEnt.av_eq x16))) ?_
  refine eP (fun H hH => yv_fieldAddr rfl fo64_2 rfl (.pp _) (.pp _ _)) ?_
  refine eP (fun H hH => yv_load rfl sh61 rfl (.pp _) rfl) ?_
  refine eM ?_
  obtain ⟨x17, e17, h0⟩ := bind_e h0
  refine eP (fun H hH => yv_ixT rfl Tryz.underlying61 sh46 rfl rfl e17) ?_
  refine eP (fun H hH => yv_load rfl sh46 rfl (.pp _) rfl) ?_
  iterate 2 refine eM ?_
  obtain ⟨x18, e18, h0⟩ := bind_e h0
  refine eP (fun H hH => yv_callP rfl rfl (.cons rfl (.cons rfl (.cons rfl (.cons rfl (.cons rfl .nil))))) cal21 (CvL.refl _) (d_pool_Out_c e18)) ?_
  refine eM ?_
  iterate 4 refine eX ?_
  refine de_eff rfl rfl rfl rfl (yl_alloc 4 .any rfl z46 rfl) (by rintro _ _ ⟨v19, -, rfl, rfl⟩; exact ⟨rfl, trivial⟩) ?_; rintro _ _ ⟨v19, -, rfl, rfl⟩
  refine de_eff0 rfl rfl rfl rfl (Yield.weak (yl_ob (ob' := (⟨46, 4, true, true, v19, [[lst 3 GLayer.av x18.1.Layers, int x18.1.Pend.a0, int x18.1.Pend.a1, int x18.1.Pend.a2]]⟩ : AObj)) (yl_store rfl sh46 rfl rfl rfl rfl rfl rfl rfl rfl rfl) rfl) (fun _ h => h) (fun _ _ => trivial)) (by rintro _ _ ⟨rfl, rfl⟩; exact trivial) ?_; rintro _ _ ⟨rfl, rfl⟩
  refine de_eff0 rfl rfl rfl rfl (Yield.weak (yl_ob (ob' := (⟨38, 3, true, true, v9, [[int x18.2.1.Qty, int x18.2.1.Value, int x18.2.1.Profit]]⟩ : AObj)) (yl_store rfl sh38 rfl rfl rfl rfl rfl rfl rfl rfl rfl) rfl) (fun _ h => h) (fun _ _ => trivial)) (by rintro _ _ ⟨rfl, rfl⟩; exact trivial) ?_; rintro _ _ ⟨rfl, rfl⟩
  obtain ⟨x20, e20, h0⟩ := bnd_e h0
  refine eP (fun H hH => yv_to (y := boo x20) (yv_assign rfl rfl) (congrArg boo e20)) ?_
  refine eA ?_
  refine de_nil (hK _ ?_)
  refine tc tbk 4 (.mk ?_)
  refine nb tbk h0 fun x21 h0 => ?_
  refine tr tbk 1 (.mk ?_)
  cases x21
  replace h0 := cf h0
  refine tc tbk 5 (.mk ?_)
  refine sY (yv_build (cs := (GState.av a1)) (ps := [(0, _)]) rfl pl66 z66 rfl (.cons rfl .nil) (by kernel_rfl)) ?_
  refine sA 5 z66 fun v22 => ?_
  refine sS ⟨66, 10, true, true, v22, [(GState.av a1)]⟩ sh66 ?_
  refine tr tbk 6 (.mk ?_)
  obtain ⟨j23, h1, h0⟩ := bind_e h0
  refine rse (Out := fun y H' => (∃ (a : Int × Bool × (List Int) × (List GRoll) × (List Int) × (List Int) × (List GEnt) × (List GPool)) (k : Nat × Nat), a = j23 ∧ y = .tup [] ∧ H' = hk [(1, ⟨32, 10, true, true, v7, [(GState.av a1)]⟩), (2, ⟨32, 10, true, true, v8, [[int 0, int 0, .sc (.slice none 0 0), .sc (.slice none 0 0), .sc (.slice none 0 0), .sc (.slice none 0 0), .sc (.slice none 0 0), .sc (.slice none 0 0), .sc (.slice none 0 0), int 0]]⟩), (3, ⟨38, 3, true, true, v9, [[int x18.2.1.Qty, int x18.2.1.Value, int x18.2.1.Profit]]⟩), (4, ⟨46, 4, true, true, v19, [[lst 3 GLayer.av x18.1.Layers, int x18.1.Pend.a0, int x18.1.Pend.a1, int x18.1.Pend.a2]]⟩), (5, ⟨66, 10, true, true, v22, [[int a1.Master.Entities, int a1.Master.Periods, lst 1 fI a1.Master.Weights, lst 1 (fL 1 fI) a1.Master.Methods, lst 1 (fL 1 fI) a1.Master.Costs, .sl 7 k.1 0 a1.Ents.length, lst 8 GReceipt.av a1.Receipts, lst 9 GSale.av a1.Sales, lst 6 GTransit.av a1.Transits, int a1.Done]]⟩), (7, ⟨64, 8, true, true, k.1, (a1.Ents.map GEnt.av).set (Int.toNat a2) [int a.1, boo a.2.1, .sl 8 k.2 0 a.2.2.2.2.2.2.2.length, lst 1 fI a.2.2.1, lst 11 GRoll.av a.2.2.2.1, lst 1 fI a.2.2.2.2.1, lst 1 fI a.2.2.2.2.2.1, lst 8 GEnt.av a.2.2.2.2.2.2.1]⟩), (8, ⟨46, 4, true, true, k.2, a.2.2.2.2.2.2.2.map GPool.av⟩)])) rfl rfl rfl (yl_call rfl rfl (.cons rfl (.cons rfl (.cons rfl (.cons rfl .nil)))) cal18 ?_) ?_
  refine pcw (c := _) Tryz.func18 rfl rfl ?_; intro Q hret hnorm
  refine tc tbk 2 (.mk ?_)
  refine sB 6 fun v24 => ?_
  refine tr tbk 5 (.mk ?_)
  obtain ⟨j25, h2, h1⟩ := bind_e h1
  refine rse (Out := fun y H' => (∃ (a : Unit) (k : Nat), a = j25 ∧ y = .pt 7 k (Int.toNat a2) 0 ∧ H' = hk [(1, ⟨32, 10, true, true, v7, [(GState.av a1)]⟩), (2, ⟨32, 10, true, true, v8, [[int 0, int 0, .sc (.slice none 0 0), .sc (.slice none 0 0), .sc (.slice none 0 0), .sc (.slice none 0 0), .sc (.slice none 0 0), .sc (.slice none 0 0), .sc (.slice none 0 0), int 0]]⟩), (3, ⟨38, 3, true, true, v9, [[int x18.2.1.Qty, int x18.2.1.Value, int x18.2.1.Profit]]⟩), (4, ⟨46, 4, true, true, v19, [[lst 3 GLayer.av x18.1.Layers, int x18.1.Pend.a0, int x18.1.Pend.a1, int x18.1.Pend.a2]]⟩), (5, ⟨66, 10, true, true, v22, [[int a1.Master.Entities, int a1.Master.Periods, lst 1 fI a1.Master.Weights, lst 1 (fL 1 fI) a1.Master.Methods, lst 1 (fL 1 fI) a1.Master.Costs, .sl 7 k 0 a1.Ents.length, lst 8 GReceipt.av a1.Receipts, lst 9 GSale.av a1.Sales, lst 6 GTransit.av a1.Transits, int a1.Done]]⟩), (6, ⟨46, 4, true, true, v24, [[lst 3 GLayer.av x18.1.Layers, int x18.1.Pend.a0, int x18.1.Pend.a1, int x18.1.Pend.a2]]⟩), (7, ⟨64, 8, true, true, k, a1.Ents.map GEnt.av⟩)])) rfl rfl rfl (yl_call rfl rfl (.cons rfl (.cons rfl .nil)) cal44 ?_) ?_
  refine pcw (c := _) Tryz.func44 rfl rfl ?_; intro Q hret hnorm
  refine tc tbk 12 (.mk ?_)
  obtain ⟨p26, h2⟩ := asrt_e h2
  refine rse rfl rfl rfl (yl_call rfl rfl (.cons rfl .nil) cal71 (pc_cv (clone71_c (id := 7) (l := a1.Ents) rfl p26) (.cons (.refl _) .nil))) ?_; rintro _ _ ⟨v27, rfl, rfl⟩
  refine tr tbk 3 (.mk ?_)
  refine sS ⟨66, 10, true, true, v22, [[int a1.Master.Entities, int a1.Master.Periods, lst 1 fI a1.Master.Weights, lst 1 (fL 1 fI) a1.Master.Methods, lst 1 (fL 1 fI) a1.Master.Costs, .sl 7 v27 0 a1.Ents.length, lst 8 GReceipt.av a1.Receipts, lst 9 GSale.av a1.Sales, lst 6 GTransit.av a1.Transits, int a1.Done]]⟩ sh27 ?_
  refine tr tbk 9 (.mk ?_)
  obtain ⟨x28, e28, h2⟩ := bind_e h2
  refine sY (yv_ixO rfl Tryz.underlying27 sh64 rfl rfl rfl rfl rfl (Eq.symm rfl) (List.length_map _) e28) ?_
  refine tr tbk 2 (.mk ?_)
  obtain rfl := nxt_e h2
  refine w_ret (hret _ _ (hk [(1, ⟨32, 10, true, true, v7, [(GState.av a1)]⟩), (2, ⟨32, 10, true, true, v8, [[int 0, int 0, .sc (.slice none 0 0), .sc (.slice none 0 0), .sc (.slice none 0 0), .sc (.slice none 0 0), .sc (.slice none 0 0), .sc (.slice none 0 0), .sc (.slice none 0 0), int 0]]⟩), (3, ⟨38, 3, true, true, v9, [[int x18.2.1.Qty, int x18.2.1.Value, int x18.2.1.Profit]]⟩), (4, ⟨46, 4, true, true, v19, [[lst 3 GLayer.av x18.1.Layers, int x18.1.Pend.a0, int x18.1.Pend.a1, int x18.1.Pend.a2]]⟩), (5, ⟨66, 10, true, true, v22, [[int a1.Master.Entities, int a1.Master.Periods, lst 1 fI a1.Master.Weights, lst 1 (fL 1 fI) a1.Master.Methods, lst 1 (fL 1 fI) a1.Master.Costs, .sl 7 v27 0 a1.Ents.length, lst 8 GReceipt.av a1.Receipts, lst 9 GSale.av a1.Sales, lst 6 GTransit.av a1.Transits, int a1.Done]]⟩), (6, ⟨46, 4, true, true, v24, [[lst 3 GLayer.av x18.1.Layers, int x18.1.Pend.a0, int x18.1.Pend.a1, int x18.1.Pend.a2]]⟩), (7, ⟨64, 8, true, true, v27, a1.Ents.map GEnt.av⟩)]) (.tmp rfl .nil) (HK.le ⟨rfl, rfl, rfl, rfl, rfl, rfl, rfl, trivial⟩) ?_)
  exact ⟨(), v27, rfl, rfl, rfl⟩
  rintro y _ ⟨_, w0_1, rfl, hc, rfl⟩
  subst hc
  refine tr tbk 6 (.mk ?_)
  obtain ⟨x29, e29, h1⟩ := bind_e h1
  refine sY (yv_nilCheck rfl rfl (.pt rfl rfl (ix_get' e29 (GEnt.av_eq _)))) ?_
  refine sY (yv_fieldAddr rfl fo64_2 rfl (.pt rfl rfl (ix_get' e29 (GEnt.av_eq _))) (.pt _ _ _ _ _)) ?_
  refine sY (yv_load rfl sh61 rfl (.pt rfl rfl (ix_get' e29 (GEnt.av_eq _))) rfl) ?_
  obtain ⟨p30, h1⟩ := asrt_e h1
  refine rse rfl rfl rfl (yl_call rfl rfl (.cons rfl .nil) cal45 (pc_cv (clone45_c (id := 8) (l := x29.Pools) rfl p30) (.cons (.refl _) .nil))) ?_; rintro _ _ ⟨v31, rfl, rfl⟩
  refine sY (yv_nilCheck rfl rfl (.pt rfl rfl (ix_get' e29 (GEnt.av_eq _)))) ?_
  refine sY (yv_fieldAddr rfl fo64_2 rfl (.pt rfl rfl (ix_get' e29 (GEnt.av_eq _))) (.pt _ _ _ _ _)) ?_
  refine rsstore rfl rfl (yl_ob (ob' := (⟨64, 8, true, true, w0_1, (a1.Ents.map GEnt.av).set (Int.toNat a2) [int x29.Now, boo x29.Closed, .sl 8 v31 0 x29.Pools.length, lst 1 fI x29.Bal, lst 11 GRoll.av x29.Rolls, lst 1 fI x29.Prices, lst 1 fI x29.Down, lst 8 GEnt.av x29.Ahead]⟩ : AObj)) (yl_store rfl sh61 rfl rfl rfl rfl rfl (ix_get' e29 (GEnt.av_eq _)) rfl rfl rfl) (ob_eq rfl)) ?_
  refine tr tbk 1 (.mk ?_)
  refine c_drawE [0, 1, 3, 7, 0, 0, 63, 127] (rl [(1, [7]), (2, [7]), (3, [7]), (5, [6]), (6, [8])] []) (rl [(7, [])] [6, 7, 8]) (rl [(7, false)] true) [0, 1, 2, 3, 4, 5, 6, 7] mixed (by kernel_rfl) ?_; intro K hK
  refine eM ?_
  refine eN (hr := set_get e29) ?_
  refine eF fo64_2 (hr := set_get e29) ?_
  refine eL sh61 (hr := set_get e29) ?_
  refine eM ?_
  refine eL sh46 ?_
  obtain ⟨x32, e32, h1⟩ := bind_e h1
  refine de_pure rfl rfl rfl rfl (fun H hH => yv_ixO rfl Tryz.underlying61 sh46 rfl rfl ((hH _ (by decide)).trans rfl) rfl rfl (Eq.symm rfl) (List.length_map _) e32) ?_
  obtain ⟨x33, e33, h1⟩ := bnd_e h1
  have fx33 := ix_set e32 e33; have lx33 := len_setV e33 (rfl : x29.Pools.length = x29.Pools.length)
  refine de_eff0 rfl rfl rfl rfl (Yield.weak (yl_ob (ob' := (⟨46, 4, true, true, v31, x33.map GPool.av⟩ : AObj)) (yl_store rfl sh46 rfl rfl rfl rfl rfl (ix_get e32) rfl rfl rfl) (ob_eq (map_setV e33))) (fun _ h => h) (fun _ _ => trivial)) (by rintro _ _ ⟨rfl, rfl⟩; exact trivial) ?_; rintro _ _ ⟨rfl, rfl⟩
  refine de_nil (hK _ ?_)
  obtain rfl := nxt_e h1
  refine c_nil (hnorm _ _ (hk [(1, ⟨32, 10, true, true, v7, [(GState.av a1)]⟩), (2, ⟨32, 10, true, true, v8, [[int 0, int 0, .sc (.slice none 0 0), .sc (.slice none 0 0), .sc (.slice none 0 0), .sc (.slice none 0 0), .sc (.slice none 0 0), .sc (.slice none 0 0), .sc (.slice none 0 0), int 0]]⟩), (3, ⟨38, 3, true, true, v9, [[int x18.2.1.Qty, int x18.2.1.Value, int x18.2.1.Profit]]⟩), (4, ⟨46, 4, true, true, v19, [[lst 3 GLayer.av x18.1.Layers, int x18.1.Pend.a0, int x18.1.Pend.a1, int x18.1.Pend.a2]]⟩), (5, ⟨66, 10, true, true, v22, [[int a1.Master.Entities, int a1.Master.Periods, lst 1 fI a1.Master.Weights, lst 1 (fL 1 fI) a1.Master.Methods, lst 1 (fL 1 fI) a1.Master.Costs, .sl 7 w0_1 0 a1.Ents.length, lst 8 GReceipt.av a1.Receipts, lst 9 GSale.av a1.Sales, lst 6 GTransit.av a1.Transits, int a1.Done]]⟩), (7, ⟨64, 8, true, true, w0_1, (a1.Ents.map GEnt.av).set (Int.toNat a2) [int x29.Now, boo x29.Closed, .sl 8 v31 0 x33.length, lst 1 fI x29.Bal, lst 11 GRoll.av x29.Rolls, lst 1 fI x29.Prices, lst 1 fI x29.Down, lst 8 GEnt.av x29.Ahead]⟩), (8, ⟨46, 4, true, true, v31, x33.map GPool.av⟩)]) .nil (HK.le ⟨rfl, rfl, rfl, rfl, rfl, (by first | rfl | exact lx33 ▸ rfl), rfl, trivial⟩) ?_)
  exact ⟨(x29.Now, x29.Closed, x29.Bal, x29.Rolls, x29.Prices, x29.Down, x29.Ahead, x33), (w0_1, v31), rfl, rfl, rfl⟩
  rintro y _ ⟨⟨y1_2, y1_3, y1_5, y1_6, y1_7, y1_8, y1_9, y1_10⟩, ⟨w1_1, w1_4⟩, rfl, hc, rfl⟩
  replace h0 := p2_e h0
  replace h0 := p2_e h0
  replace h0 := p2_e h0
  replace h0 := p2_e h0
  replace h0 := p2_e h0
  replace h0 := p2_e h0
  replace h0 := p2_e h0
  subst hc
  obtain ⟨x34, e34, h0⟩ := bind_e h0
  refine tr tbk 2 (.mk ?_)
  refine c_drawE [0, 1, 0, 0, 3, 23, 63, 127] (rl [(0, [5]), (1, [5]), (2, [3])] []) (rl [(4, [3]), (5, [])] [3, 5]) (rl [(4, false), (5, false)] true) [0, 1, 2, 3, 4, 5, 6, 7] mixed (by kernel_rfl) ?_; intro K hK
  refine eF fo66_0 ?_
  refine eL sh32 ?_
  refine eL sh38 ?_
  refine eM ?_
  refine de_eff0 rfl rfl rfl rfl (Yield.weak (yl_ob (ob' := (⟨32, 10, true, true, v8, [[int a1.Master.Entities, int a1.Master.Periods, lst 1 fI a1.Master.Weights, lst 1 (fL 1 fI) a1.Master.Methods, lst 1 (fL 1 fI) a1.Master.Costs, .sl 7 w1_1 0 a1.Ents.length, lst 8 GReceipt.av a1.Receipts, lst 9 GSale.av a1.Sales, lst 6 GTransit.av a1.Transits, int a1.Done]]⟩ : AObj)) (yl_store rfl sh32 rfl rfl rfl rfl rfl rfl rfl rfl rfl) rfl) (fun _ h => h) (fun _ _ => trivial)) (by rintro _ _ ⟨rfl, rfl⟩; exact ⟨rfl, trivial⟩) ?_; rintro _ _ ⟨rfl, rfl⟩
  refine de_eff0 rfl rfl rfl rfl (Yield.weak (yl_ob (ob' := (⟨38, 3, true, true, v9, [[int x18.2.1.Qty, int x18.2.1.Value, int x18.2.1.Profit]]⟩ : AObj)) (yl_store rfl sh38 rfl rfl rfl rfl rfl rfl rfl rfl rfl) rfl) (fun _ h => h) (fun _ _ => trivial)) (by rintro _ _ ⟨rfl, rfl⟩; exact trivial) ?_; rintro _ _ ⟨rfl, rfl⟩
  iterate 2 refine eA ?_
  refine de_nil (hK _ ?_)
  obtain rfl := nxt_e h0
  refine wR hret (rC sh32 (rC sh38 (rT (rT .nil)))) ?_
  exact CvL.tup (.cons (CvL.agg (.cons (.refl _) (.cons (.refl _) (.cons (.refl _) (.cons (.refl _) (.cons (.refl _) (.cons (cv_ov rfl rfl rfl rfl rfl (Eq.symm rfl) e34 (cvl_to (.cons (.refl _) (.cons (.refl _) (.cons (cv_lst rfl rfl rfl rfl rfl (Eq.symm rfl)) (.cons (.refl _) (.cons (.refl _) (.cons (.refl _) (.cons (.refl _) (.cons (.refl _) .nil)))))))) (GEnt.av_eq _))) (.cons (.refl _) (.cons (.refl _) (.cons (.refl _) (.cons (.refl _) .nil))))))))))) (.cons (.refl _) (.cons (.refl _) (.cons (.refl _) .nil))))
  replace h0 := ct h0
  refine tc tbk 6 (.mk ?_)
  refine sS ⟨32, 10, true, true, v8, [(GState.av a1)]⟩ sh32 ?_
  refine sS ⟨38, 3, true, true, v9, [[int 0, int 0, int 0]]⟩ sh38 ?_
  refine tr tbk 3 (.mk ?_)
  obtain rfl := nxt_e h0
  refine wR hret (rC sh32 (rC sh38 (rT (rT .nil)))) ?_
  exact .refl _
  replace h0 := ct h0
  refine tc tbk 5 (.mk ?_)
  refine sS ⟨32, 10, true, true, v8, [(GState.av a1)]⟩ sh32 ?_
  refine sS ⟨38, 3, true, true, v9, [[int 0, int 0, int 0]]⟩ sh38 ?_
  refine tr tbk 3 (.mk ?_)
  obtain rfl := nxt_e h0
  refine wR hret (rC sh32 (rC sh38 (rT (rT .nil)))) ?_
  exact .refl _
def d_stock_Ready (a1 : GState) (a2 : Int) (a3 : Int) : Option (Int) :=
(d_stock_is a1 a2 a3).bind fun x5 =>
bnd (!x5) fun x6 =>
cond x6 (some ((4 : Int))) ((ix a1.Ents a2).bind fun x7 =>
bnd x7.Closed fun x8 =>
asrt (x8 = false) <|
some ((0 : Int)))
theorem d_stock_Ready_c {a1 : GState} {a2 : Int} {a3 : Int} {r : Int} (h0 : d_stock_Ready a1 a2 a3 = some r) : PP Tryz.prog 8 [.agg (GState.av a1), int a2, int a3] (fun y => y = int r) := by
  unfold d_stock_Ready at h0
  refine pp_of_pc (R0 := fun y H => Cv (frzH H) y (int r)) ?_ (fun y H hc => ⟨_, rfl, pvI r, hc⟩)
  refine pcw (c := _) Tryz.func8 rfl rfl ?_; intro Q hret hnorm
  refine tc tbk 2 (.mk ?_)
  refine sB 1 fun v4 => ?_
  refine tr tbk 9 (.mk ?_)
  obtain ⟨x5, e5, h0⟩ := bind_e h0
  refine sC cal22 (d_stock_is_c e5) ?_
  refine nb tbk h0 fun x6 h0 => ?_
  refine tr tbk 2 (.mk ?_)
  cases x6
  replace h0 := cf h0
  refine tc tbk 6 (.mk ?_)
  obtain ⟨x7, e7, h0⟩ := bind_e h0
  refine sY (yv_to (y := .pp [int x7.Now, boo x7.Closed, lst 4 GPool.av x7.Pools, lst 1 fI x7.Bal, lst 11 GRoll.av x7.Rolls, lst 1 fI x7.Prices, lst 1 fI x7.Down, lst 8 GEnt.av x7.Ahead]) (yv_ixT rfl Tryz.underlying27 sh64 rfl rfl e7) (congrArg AV.pp (GEnt.av_eq x7))) ?_
  refine tr tbk 4 (.mk ?_)
  obtain ⟨x8, e8, h0⟩ := bnd_e h0
  refine c_as (t := 13) (boo x8) rfl (congrArg boo e8) ?_
  refine c_as (t := 19) (boo x8) rfl (congrArg boo e8) ?_
  replace h0 := asrt_e h0
  obtain ⟨rfl, h0⟩ := h0
  refine tc tbk 7 (.mk ?_)
  obtain rfl := nxt_e h0
  refine wR hret (rT .nil) ?_
  exact .refl _
  replace h0 := ct h0
  refine tc tbk 5 (.mk ?_)
  obtain rfl := nxt_e h0
  refine wR hret (rT .nil) ?_
  exact .refl _
def d_slices_Equal_int_int_L0 (a1 : List Int) (a2 : List Int) : Nat → Int → Option ((Unit) ⊕ (Bool))
  | 0, _ => none
  | n + 1, y0_1 =>
    bnd (decide (y0_1 < (a1.length : Int))) fun x5 =>
    cond x5 ((ix a1 y0_1).bind fun x6 =>
    (ix a2 y0_1).bind fun x7 =>
    bnd (decide (x6 ≠ x7)) fun x8 =>
    cond x8 (esc (some ((false : Bool)))) (bnd (w64 (y0_1 + 1)) fun x9 =>
    d_slices_Equal_int_int_L0 a1 a2 n (x9 : Int))) (brk ())
def d_slices_Equal_int_int (n : Nat) (a1 : List Int) (a2 : List Int) : Option (Bool) :=
bnd (decide ((a1.length : Int) ≠ (a2.length : Int))) fun x3 =>
cond x3 (some ((false : Bool))) ((show Option ((Unit) ⊕ (Bool)) from
d_slices_Equal_int_int_L0 a1 a2 n (0 : Int)).bind <| sel <| fun _ =>
some ((true : Bool)))
theorem d_slices_Equal_int_int_c {n : Nat} {a1 : List Int} {a2 : List Int} {r : Bool} (h0 : d_slices_Equal_int_int n a1 a2 = some r) : PP Tryz.prog 50 [lst 1 fI a1, lst 1 fI a2] (fun y => y = boo r) := by
  unfold d_slices_Equal_int_int at h0
  refine pp_of_pc (R0 := fun y H => Cv (frzH H) y (boo r)) ?_ (fun y H hc => ⟨_, rfl, pvB r, hc⟩)
  refine pcw (c := _) Tryz.func50 rfl rfl ?_; intro Q hret hnorm
  refine tc tbk 8 (.mk ?_)
  refine sY (yv_len_sl rfl Tryz.underlying22 rfl (lst_len _)) ?_
  refine tr tbk 1 (.mk ?_)
  refine sY (yv_len_sl rfl Tryz.underlying22 rfl (lst_len _)) ?_
  refine nb tbk h0 fun x3 h0 => ?_
  refine tr tbk 1 (.mk ?_)
  cases x3
  replace h0 := cf h0
  refine tc tbk 6 (.mk ?_)
  refine sY (yv_len_sl rfl Tryz.underlying22 rfl (lst_len _)) ?_
  refine tr tbk 2 (.mk ?_)
  refine jnE h0 [4] [] (fun (a : Unit) (k : Unit) => []) (fun a k => []) ⟨fun j4 h1 h0 => ?_, ?_⟩
  refine tc tbk 1 (.mk ?_)
  refine lp (fun n (a : Int) => d_slices_Equal_int_int_L0 a1 a2 n a) (0 : Int) () h1 [0, 1, 4, 12] [] (fun (a : Int) (k : Unit) => [(13, int a)]) (fun a k => []) (fun _ => rfl) ⟨leA, ?_⟩
  rintro n y0_1 _ hm h1
  replace h1 : d_slices_Equal_int_int_L0 a1 a2 (n + 1) y0_1 = some _ := h1
  rw [d_slices_Equal_int_int_L0] at h1
  refine tc tbk 2 (.mk ?_)
  refine nb tbk h1 fun x5 h1 => ?_
  refine tr tbk 2 (.mk ?_)
  cases x5
  replace h1 := cf h1
  refine tc tbk 2 (.mk ?_)
  exact lfE h1 () leA
  replace h1 := ct h1
  refine tc tbk 10 (.mk ?_)
  refine c_drawE [0, 0, 3, 7, 0, 0, 48, 112, 255] (fun i => []) (fun i => []) (fun i => true) [0, 1, 2, 3, 4, 5, 6, 7, 8] mixed (by kernel_rfl) ?_; intro K hK
  iterate 2 refine eM ?_
  obtain ⟨x6, e6, h1⟩ := bind_e h1
  refine eP (fun H hH => yv_ixT rfl Tryz.underlying22 sh3 rfl rfl e6) ?_
  refine eP (fun H hH => yv_load rfl sh3 rfl (.pp _) rfl) ?_
  iterate 2 refine eM ?_
  obtain ⟨x7, e7, h1⟩ := bind_e h1
  refine eP (fun H hH => yv_ixT rfl Tryz.underlying22 sh3 rfl rfl e7) ?_
  refine eP (fun H hH => yv_load rfl sh3 rfl (.pp _) rfl) ?_
  obtain ⟨x8, e8, h1⟩ := bnd_e h1
  refine eP (fun H hH => yv_to (y := boo x8) (yv_neq rfl rfl rfl) (congrArg boo e8)) ?_
  refine de_nil (hK _ ?_)
  cases x8
  replace h1 := cf h1
  refine tc tbk 4 (.mk ?_)
  refine ni tbk h1 fun x9 h1 => ?_
  refine tr tbk 2 (.mk ?_)
  exact bk x9 () h1 leA
  replace h1 := ct h1
  refine tc tbk 5 (.mk ?_)
  obtain ⟨c10, hX, hj⟩ := esc_e h1; subst hj; replace h0 := hX.trans (sel_r h0)
  obtain rfl := nxt_e h0
  refine wR hret (rT .nil) ?_
  exact .refl _
  rintro _ _ h0
  refine tc tbk 4 (.mk ?_)
  obtain rfl := nxt_e h0
  refine wR hret (rT .nil) ?_
  exact .refl _
  replace h0 := ct h0
  refine tc tbk 5 (.mk ?_)
  obtain rfl := nxt_e h0
  refine wR hret (rT .nil) ?_
  exact .refl _
def d_master_Same_L0 (a1 : GMaster) (a2 : GMaster) : Nat → Int → Option ((Unit) ⊕ ((Bool)))
  | 0, _ => none
  | n + 1, y0_1 =>
    bnd (decide (y0_1 < (a1.Methods.length : Int))) fun x12 =>
    cond x12 ((ix a1.Methods y0_1).bind fun x13 =>
    (ix a2.Methods y0_1).bind fun x14 =>
    (d_slices_Equal_int_int n x13 x14).bind fun x15 =>
    bnd (!x15) fun x16 =>
    cond x16 (esc (some (false : Bool))) (bnd (w64 (y0_1 + 1)) fun x17 =>
    d_master_Same_L0 a1 a2 n (x17 : Int))) (brk ())
def d_master_Same_L1 (a1 : GMaster) (a2 : GMaster) : Nat → Int → Option ((Unit) ⊕ ((Bool)))
  | 0, _ => none
  | n + 1, y3_1 =>
    bnd (decide (y3_1 < (a1.Costs.length : Int))) fun x22 =>
    cond x22 ((ix a1.Costs y3_1).bind fun x23 =>
    (ix a2.Costs y3_1).bind fun x24 =>
    (d_slices_Equal_int_int n x23 x24).bind fun x25 =>
    bnd (!x25) fun x26 =>
    cond x26 (esc (some (false : Bool))) (bnd (w64 (y3_1 + 1)) fun x27 =>
    d_master_Same_L1 a1 a2 n (x27 : Int))) (brk ())
def d_master_Same (n : Nat) (a1 : GMaster) (a2 : GMaster) : Option (Bool) :=
(show Option (Bool) from
bnd (decide (a1.Entities = a2.Entities)) fun x6 =>
cond x6 (bnd (decide (a1.Periods = a2.Periods)) fun x7 =>
cond x7 ((d_slices_Equal_int_int n a1.Weights a2.Weights).bind fun x8 =>
cond x8 ((show Option ((Bool)) from
bnd (decide ((a1.Methods.length : Int) ≠ (a2.Methods.length : Int))) fun x10 =>
cond x10 (some (false : Bool)) ((show Option ((Unit) ⊕ ((Bool))) from
d_master_Same_L0 a1 a2 n (0 : Int)).bind <| sel <| fun _ =>
some (true : Bool))).bind <| fun y2_1 =>
cond y2_1 ((show Option ((Bool)) from
bnd (decide ((a1.Costs.length : Int) ≠ (a2.Costs.length : Int))) fun x20 =>
cond x20 (some (false : Bool)) ((show Option ((Unit) ⊕ ((Bool))) from
d_master_Same_L1 a1 a2 n (0 : Int)).bind <| sel <| fun _ =>
some (true : Bool))).bind <| fun y5_1 =>
some (y5_1 : Bool)) (some (false : Bool))) (some (false : Bool))) (some (false : Bool))) (some (false : Bool))).bind <| fun y6_1 =>
some ((y6_1 : Bool))
theorem d_master_Same_c {n : Nat} {a1 : GMaster} {a2 : GMaster} {r : Bool} (h0 : d_master_Same n a1 a2 = some r) : PP Tryz.prog 23 [.agg (GMaster.av a1), .agg (GMaster.av a2)] (fun y => y = boo r) := by
  unfold d_master_Same at h0
  refine pp_of_pc (R0 := fun y H => Cv (frzH H) y (boo r)) ?_ (fun y H hc => ⟨_, rfl, pvB r, hc⟩)
  refine pcw (c := _) Tryz.func23 rfl rfl ?_; intro Q hret hnorm
  refine tc tbk 2 (.mk ?_)
  refine sB 1 fun v3 => ?_
  refine sB 2 fun v4 => ?_
  refine tr tbk 3 (.mk ?_)
  refine jn h0 [] [] (fun (a : Bool) (k : Unit) => [(4, boo a)]) (fun a k => []) ⟨fun j5 h1 => ?_, ?_⟩
  refine tc tbk 5 (.mk ?_)
  refine nb tbk h1 fun x6 h1 => ?_
  refine tr tbk 1 (.mk ?_)
  cases x6
  replace h1 := cf h1
  refine tr tbk 29 (.mk ?_)
  exact lf h1 () leA
  replace h1 := ct h1
  refine tr tbk 4 (.mk ?_)
  refine nb tbk h1 fun x7 h1 => ?_
  refine tr tbk 2 (.mk ?_)
  cases x7
  replace h1 := cf h1
  refine tr tbk 22 (.mk ?_)
  exact lf h1 () leA
  replace h1 := ct h1
  refine tr tbk 4 (.mk ?_)
  obtain ⟨x8, e8, h1⟩ := bind_e h1
  refine sC cal50 (d_slices_Equal_int_int_c e8) ?_
  refine tr tbk 2 (.mk ?_)
  cases x8
  replace h1 := cf h1
  refine tr tbk 15 (.mk ?_)
  exact lf h1 () leA
  replace h1 := ct h1
  refine tr tbk 4 (.mk ?_)
  obtain ⟨j9, h2, h1⟩ := bind_e h1
  refine rse (Out := fun y H' => (∃ (a : Bool) (k : Unit), a = j9 ∧ y = boo a ∧ H' = hk [(1, ⟨25, 5, true, true, v3, [[int a1.Entities, int a1.Periods, lst 1 fI a1.Weights, lst 1 (fL 1 fI) a1.Methods, lst 1 (fL 1 fI) a1.Costs]]⟩), (2, ⟨25, 5, true, true, v4, [[int a2.Entities, int a2.Periods, lst 1 fI a2.Weights, lst 1 (fL 1 fI) a2.Methods, lst 1 (fL 1 fI) a2.Costs]]⟩)])) rfl rfl rfl (yl_call rfl rfl (.cons rfl (.cons rfl (.cons rfl .nil))) cal51 ?_) ?_
  refine pcw (c := _) Tryz.func51 rfl rfl ?_; intro Q hret hnorm
  refine tc tbk 8 (.mk ?_)
  refine sY (yv_len_sl rfl Tryz.underlying23 rfl (lst_len _)) ?_
  refine tr tbk 1 (.mk ?_)
  refine sY (yv_len_sl rfl Tryz.underlying23 rfl (lst_len _)) ?_
  refine nb tbk h2 fun x10 h2 => ?_
  refine tr tbk 1 (.mk ?_)
  cases x10
  replace h2 := cf h2
  refine tc tbk 6 (.mk ?_)
  refine sY (yv_len_sl rfl Tryz.underlying23 rfl (lst_len _)) ?_
  refine tr tbk 2 (.mk ?_)
  refine jnE h2 [6] [1, 2] (fun (a : Unit) (k : Unit) => []) (fun a k => []) ⟨fun j11 h3 h2 => ?_, ?_⟩
  refine tc tbk 1 (.mk ?_)
  refine lp (fun n (a : Int) => d_master_Same_L0 a1 a2 n a) (0 : Int) () h3 [1, 2, 6, 15, 16] [1, 2] (fun (a : Int) (k : Unit) => [(17, int a)]) (fun a k => []) (fun _ => rfl) ⟨leA, ?_⟩
  rintro n y0_1 _ hm h3
  replace h3 : d_master_Same_L0 a1 a2 (n + 1) y0_1 = some _ := h3
  rw [d_master_Same_L0] at h3
  refine tc tbk 2 (.mk ?_)
  refine nb tbk h3 fun x12 h3 => ?_
  refine tr tbk 2 (.mk ?_)
  cases x12
  replace h3 := cf h3
  refine tc tbk 2 (.mk ?_)
  exact lfE h3 () leA
  replace h3 := ct h3
  refine tc tbk 7 (.mk ?_)
  obtain ⟨x13, e13, h3⟩ := bind_e h3
  refine sY (yv_ixT rfl Tryz.underlying23 sh22 rfl rfl e13) ?_
  refine tr tbk 8 (.mk ?_)
  obtain ⟨x14, e14, h3⟩ := bind_e h3
  refine sY (yv_ixT rfl Tryz.underlying23 sh22 rfl rfl e14) ?_
  refine tr tbk 8 (.mk ?_)
  obtain ⟨x15, e15, h3⟩ := bind_e h3
  refine sC cal50 (d_slices_Equal_int_int_c e15) ?_
  refine nb tbk h3 fun x16 h3 => ?_
  refine tr tbk 1 (.mk ?_)
  cases x16
  replace h3 := cf h3
  refine tc tbk 4 (.mk ?_)
  refine ni tbk h3 fun x17 h3 => ?_
  refine tr tbk 2 (.mk ?_)
  exact bk x17 () h3 leA
  replace h3 := ct h3
  refine tc tbk 5 (.mk ?_)
  obtain ⟨c18, hX, hj⟩ := esc_e h3; subst hj; replace h2 := hX.trans (sel_r h2)
  obtain rfl := nxt_e h2
  refine w_ret (hret _ _ (hk [(1, ⟨25, 5, true, true, v3, [[int a1.Entities, int a1.Periods, lst 1 fI a1.Weights, lst 1 (fL 1 fI) a1.Methods, lst 1 (fL 1 fI) a1.Costs]]⟩), (2, ⟨25, 5, true, true, v4, [[int a2.Entities, int a2.Periods, lst 1 fI a2.Weights, lst 1 (fL 1 fI) a2.Methods, lst 1 (fL 1 fI) a2.Costs]]⟩)]) (.tmp rfl .nil) (HK.le ⟨rfl, rfl, trivial⟩) ?_)
  exact ⟨false, (), rfl, rfl, rfl⟩
  rintro _ _ h2
  refine tc tbk 4 (.mk ?_)
  obtain rfl := nxt_e h2
  refine w_ret (hret _ _ (hk [(1, ⟨25, 5, true, true, v3, [[int a1.Entities, int a1.Periods, lst 1 fI a1.Weights, lst 1 (fL 1 fI) a1.Methods, lst 1 (fL 1 fI) a1.Costs]]⟩), (2, ⟨25, 5, true, true, v4, [[int a2.Entities, int a2.Periods, lst 1 fI a2.Weights, lst 1 (fL 1 fI) a2.Methods, lst 1 (fL 1 fI) a2.Costs]]⟩)]) (.tmp rfl .nil) (HK.le ⟨rfl, rfl, trivial⟩) ?_)
  exact ⟨true, (), rfl, rfl, rfl⟩
  replace h2 := ct h2
  refine tc tbk 5 (.mk ?_)
  obtain rfl := nxt_e h2
  refine w_ret (hret _ _ (hk [(1, ⟨25, 5, true, true, v3, [[int a1.Entities, int a1.Periods, lst 1 fI a1.Weights, lst 1 (fL 1 fI) a1.Methods, lst 1 (fL 1 fI) a1.Costs]]⟩), (2, ⟨25, 5, true, true, v4, [[int a2.Entities, int a2.Periods, lst 1 fI a2.Weights, lst 1 (fL 1 fI) a2.Methods, lst 1 (fL 1 fI) a2.Costs]]⟩)]) (.tmp rfl .nil) (HK.le ⟨rfl, rfl, trivial⟩) ?_)
  exact ⟨false, (), rfl, rfl, rfl⟩
  rintro y _ ⟨y2_1, _, rfl, hc, rfl⟩
  subst hc
  refine tr tbk 2 (.mk ?_)
  cases y2_1
  replace h1 := cf h1
  refine tr tbk 8 (.mk ?_)
  exact lf h1 () leA
  replace h1 := ct h1
  refine tr tbk 4 (.mk ?_)
  obtain ⟨j19, h2, h1⟩ := bind_e h1
  refine rse (Out := fun y H' => (∃ (a : Bool) (k : Unit), a = j19 ∧ y = boo a ∧ H' = hk [(1, ⟨25, 5, true, true, v3, [[int a1.Entities, int a1.Periods, lst 1 fI a1.Weights, lst 1 (fL 1 fI) a1.Methods, lst 1 (fL 1 fI) a1.Costs]]⟩), (2, ⟨25, 5, true, true, v4, [[int a2.Entities, int a2.Periods, lst 1 fI a2.Weights, lst 1 (fL 1 fI) a2.Methods, lst 1 (fL 1 fI) a2.Costs]]⟩)])) rfl rfl rfl (yl_call rfl rfl (.cons rfl (.cons rfl (.cons rfl .nil))) cal51 ?_) ?_
  refine pcw (c := _) Tryz.func51 rfl rfl ?_; intro Q hret hnorm
  refine tc tbk 8 (.mk ?_)
  refine sY (yv_len_sl rfl Tryz.underlying23 rfl (lst_len _)) ?_
  refine tr tbk 1 (.mk ?_)
  refine sY (yv_len_sl rfl Tryz.underlying23 rfl (lst_len _)) ?_
  refine nb tbk h2 fun x20 h2 => ?_
  refine tr tbk 1 (.mk ?_)
  cases x20
  replace h2 := cf h2
  refine tc tbk 6 (.mk ?_)
  refine sY (yv_len_sl rfl Tryz.underlying23 rfl (lst_len _)) ?_
  refine tr tbk 2 (.mk ?_)
  refine jnE h2 [6] [1, 2] (fun (a : Unit) (k : Unit) => []) (fun a k => []) ⟨fun j21 h3 h2 => ?_, ?_⟩
  refine tc tbk 1 (.mk ?_)
  refine lp (fun n (a : Int) => d_master_Same_L1 a1 a2 n a) (0 : Int) () h3 [1, 2, 6, 15, 16] [1, 2] (fun (a : Int) (k : Unit) => [(17, int a)]) (fun a k => []) (fun _ => rfl) ⟨leA, ?_⟩
  rintro n y3_1 _ hm h3
  replace h3 : d_master_Same_L1 a1 a2 (n + 1) y3_1 = some _ := h3
  rw [d_master_Same_L1] at h3
  refine tc tbk 2 (.mk ?_)
  refine nb tbk h3 fun x22 h3 => ?_
  refine tr tbk 2 (.mk ?_)
  cases x22
  replace h3 := cf h3
  refine tc tbk 2 (.mk ?_)
  exact lfE h3 () leA
  replace h3 := ct h3
  refine tc tbk 7 (.mk ?_)
  obtain ⟨x23, e23, h3⟩ := bind_e h3
  refine sY (yv_ixT rfl Tryz.underlying23 sh22 rfl rfl e23) ?_
  refine tr tbk 8 (.mk ?_)
  obtain ⟨x24, e24, h3⟩ := bind_e h3
  refine sY (yv_ixT rfl Tryz.underlying23 sh22 rfl rfl e24) ?_
  refine tr tbk 8 (.mk ?_)
  obtain ⟨x25, e25, h3⟩ := bind_e h3
  refine sC cal50 (d_slices_Equal_int_int_c e25) ?_
  refine nb tbk h3 fun x26 h3 => ?_
  refine tr tbk 1 (.mk ?_)
  cases x26
  replace h3 := cf h3
  refine tc tbk 4 (.mk ?_)
  refine ni tbk h3 fun x27 h3 => ?_
  refine tr tbk 2 (.mk ?_)
  exact bk x27 () h3 leA
  replace h3 := ct h3
  refine tc tbk 5 (.mk ?_)
  obtain ⟨c28, hX, hj⟩ := esc_e h3; subst hj; replace h2 := hX.trans (sel_r h2)
  obtain rfl := nxt_e h2
  refine w_ret (hret _ _ (hk [(1, ⟨25, 5, true, true, v3, [[int a1.Entities, int a1.Periods, lst 1 fI a1.Weights, lst 1 (fL 1 fI) a1.Methods, lst 1 (fL 1 fI) a1.Costs]]⟩), (2, ⟨25, 5, true, true, v4, [[int a2.Entities, int a2.Periods, lst 1 fI a2.Weights, lst 1 (fL 1 fI) a2.Methods, lst 1 (fL 1 fI) a2.Costs]]⟩)]) (.tmp rfl .nil) (HK.le ⟨rfl, rfl, trivial⟩) ?_)
  exact ⟨false, (), rfl, rfl, rfl⟩
  rintro _ _ h2
  refine tc tbk 4 (.mk ?_)
  obtain rfl := nxt_e h2
  refine w_ret (hret _ _ (hk [(1, ⟨25, 5, true, true, v3, [[int a1.Entities, int a1.Periods, lst 1 fI a1.Weights, lst 1 (fL 1 fI) a1.Methods, lst 1 (fL 1 fI) a1.Costs]]⟩), (2, ⟨25, 5, true, true, v4, [[int a2.Entities, int a2.Periods, lst 1 fI a2.Weights, lst 1 (fL 1 fI) a2.Methods, lst 1 (fL 1 fI) a2.Costs]]⟩)]) (.tmp rfl .nil) (HK.le ⟨rfl, rfl, trivial⟩) ?_)
  exact ⟨true, (), rfl, rfl, rfl⟩
  replace h2 := ct h2
  refine tc tbk 5 (.mk ?_)
  obtain rfl := nxt_e h2
  refine w_ret (hret _ _ (hk [(1, ⟨25, 5, true, true, v3, [[int a1.Entities, int a1.Periods, lst 1 fI a1.Weights, lst 1 (fL 1 fI) a1.Methods, lst 1 (fL 1 fI) a1.Costs]]⟩), (2, ⟨25, 5, true, true, v4, [[int a2.Entities, int a2.Periods, lst 1 fI a2.Weights, lst 1 (fL 1 fI) a2.Methods, lst 1 (fL 1 fI) a2.Costs]]⟩)]) (.tmp rfl .nil) (HK.le ⟨rfl, rfl, trivial⟩) ?_)
  exact ⟨false, (), rfl, rfl, rfl⟩
  rintro y _ ⟨y5_1, _, rfl, hc, rfl⟩
  subst hc
  refine tr tbk 3 (.mk ?_)
  exact lf h1 () leA
  rintro y6_1 _ h0
  obtain rfl := nxt_e h0
  refine wR hret (rT .nil) ?_
  exact .refl _
def d_slices_Equal_api_Layer_api_Layer_L0 (a1 : List GLayer) (a2 : List GLayer) : Nat → Int → Option ((Unit) ⊕ (Bool))
  | 0, _ => none
  | n + 1, y0_1 =>
    bnd (decide (y0_1 < (a1.length : Int))) fun x5 =>
    cond x5 ((ix a1 y0_1).bind fun x6 =>
    (ix a2 y0_1).bind fun x7 =>
    bnd (!decide ((x6 : GLayer) = (x7 : GLayer))) fun x8 =>
    cond x8 (esc (some ((false : Bool)))) (bnd (w64 (y0_1 + 1)) fun x9 =>
    d_slices_Equal_api_Layer_api_Layer_L0 a1 a2 n (x9 : Int))) (brk ())
def d_slices_Equal_api_Layer_api_Layer (n : Nat) (a1 : List GLayer) (a2 : List GLayer) : Option (Bool) :=
bnd (decide ((a1.length : Int) ≠ (a2.length : Int))) fun x3 =>
cond x3 (some ((false : Bool))) ((show Option ((Unit) ⊕ (Bool)) from
d_slices_Equal_api_Layer_api_Layer_L0 a1 a2 n (0 : Int)).bind <| sel <| fun _ =>
some ((true : Bool)))
theorem d_slices_Equal_api_Layer_api_Layer_c {n : Nat} {a1 : List GLayer} {a2 : List GLayer} {r : Bool} (h0 : d_slices_Equal_api_Layer_api_Layer n a1 a2 = some r) : PP Tryz.prog 76 [lst 3 GLayer.av a1, lst 3 GLayer.av a2] (fun y => y = boo r) := by
  unfold d_slices_Equal_api_Layer_api_Layer at h0
  refine pp_of_pc (R0 := fun y H => Cv (frzH H) y (boo r)) ?_ (fun y H hc => ⟨_, rfl, pvB r, hc⟩)
  refine pcw (c := _) Tryz.func76 rfl rfl ?_; intro Q hret hnorm
  refine tc tbk 8 (.mk ?_)
  refine sY (yv_len_sl rfl Tryz.underlying43 rfl (lst_len _)) ?_
  refine tr tbk 1 (.mk ?_)
  refine sY (yv_len_sl rfl Tryz.underlying43 rfl (lst_len _)) ?_
  refine nb tbk h0 fun x3 h0 => ?_
  refine tr tbk 1 (.mk ?_)
  cases x3
  replace h0 := cf h0
  refine tc tbk 6 (.mk ?_)
  refine sY (yv_len_sl rfl Tryz.underlying43 rfl (lst_len _)) ?_
  refine tr tbk 2 (.mk ?_)
  refine jnE h0 [4] [] (fun (a : Unit) (k : Unit) => []) (fun a k => []) ⟨fun j4 h1 h0 => ?_, ?_⟩
  refine tc tbk 1 (.mk ?_)
  refine lp (fun n (a : Int) => d_slices_Equal_api_Layer_api_Layer_L0 a1 a2 n a) (0 : Int) () h1 [0, 1, 4, 12] [] (fun (a : Int) (k : Unit) => [(13, int a)]) (fun a k => []) (fun _ => rfl) ⟨leA, ?_⟩
  rintro n y0_1 _ hm h1
  replace h1 : d_slices_Equal_api_Layer_api_Layer_L0 a1 a2 (n + 1) y0_1 = some _ := h1
  rw [d_slices_Equal_api_Layer_api_Layer_L0] at h1
  refine tc tbk 2 (.mk ?_)
  refine nb tbk h1 fun x5 h1 => ?_
  refine tr tbk 2 (.mk ?_)
  cases x5
  replace h1 := cf h1
  refine tc tbk 2 (.mk ?_)
  exact lfE h1 () leA
  replace h1 := ct h1
  refine tc tbk 10 (.mk ?_)
  refine c_drawE [0, 0, 3, 7, 0, 0, 48, 112, 255] (fun i => []) (fun i => []) (fun i => true) [0, 1, 2, 3, 4, 5, 6, 7, 8] mixed (by kernel_rfl) ?_; intro K hK
  iterate 2 refine eM ?_
  obtain ⟨x6, e6, h1⟩ := bind_e h1
  refine eP (fun H hH => yv_ixT rfl Tryz.underlying43 sh38 rfl rfl e6) ?_
  refine eP (fun H hH => yv_load rfl sh38 rfl (.pp _) rfl) ?_
  iterate 2 refine eM ?_
  obtain ⟨x7, e7, h1⟩ := bind_e h1
  refine eP (fun H hH => yv_ixT rfl Tryz.underlying43 sh38 rfl rfl e7) ?_
  refine eP (fun H hH => yv_load rfl sh38 rfl (.pp _) rfl) ?_
  obtain ⟨x8, e8, h1⟩ := bnd_e h1
  refine eP (fun H hH => yv_aneq (r' := x8) rfl fl38 rfl rfl (.cons (.int Tryz.underlying3) sh3 (.cons (.int Tryz.underlying3) sh3 (.cons (.int Tryz.underlying3) sh3 (.nil _)))) ((congrArg Bool.not (GLayer.eqv (x6 : GLayer) (x7 : GLayer))).trans e8)) ?_
  refine de_nil (hK _ ?_)
  cases x8
  replace h1 := cf h1
  refine tc tbk 4 (.mk ?_)
  refine ni tbk h1 fun x9 h1 => ?_
  refine tr tbk 2 (.mk ?_)
  exact bk x9 () h1 leA
  replace h1 := ct h1
  refine tc tbk 5 (.mk ?_)
  obtain ⟨c10, hX, hj⟩ := esc_e h1; subst hj; replace h0 := hX.trans (sel_r h0)
  obtain rfl := nxt_e h0
  refine wR hret (rT .nil) ?_
  exact .refl _
  rintro _ _ h0
  refine tc tbk 4 (.mk ?_)
  obtain rfl := nxt_e h0
  refine wR hret (rT .nil) ?_
  exact .refl _
  replace h0 := ct h0
  refine tc tbk 5 (.mk ?_)
  obtain rfl := nxt_e h0
  refine wR hret (rT .nil) ?_
  exact .refl _
def d_stock_samePool (n : Nat) (a1 : GPool) (a2 : GPool) : Option (Bool) :=
(show Option (Bool) from
(d_slices_Equal_api_Layer_api_Layer n a1.Layers a2.Layers).bind fun x6 =>
cond x6 (bnd (decide ((a1.Pend : A3_Int) = (a2.Pend : A3_Int))) fun x7 =>
some (x7 : Bool)) (some (false : Bool))).bind <| fun y0_1 =>
some ((y0_1 : Bool))
theorem d_stock_samePool_c {n : Nat} {a1 : GPool} {a2 : GPool} {r : Bool} (h0 : d_stock_samePool n a1 a2 = some r) : PP Tryz.prog 53 [.agg (GPool.av a1), .agg (GPool.av a2)] (fun y => y = boo r) := by
  unfold d_stock_samePool at h0
  refine pp_of_pc (R0 := fun y H => Cv (frzH H) y (boo r)) ?_ (fun y H hc => ⟨_, rfl, pvB r, hc⟩)
  refine pcw (c := _) Tryz.func53 rfl rfl ?_; intro Q hret hnorm
  refine tc tbk 2 (.mk ?_)
  refine sB 1 fun v3 => ?_
  refine sB 2 fun v4 => ?_
  refine tr tbk 3 (.mk ?_)
  refine jn h0 [] [] (fun (a : Bool) (k : Unit) => [(4, boo a)]) (fun a k => []) ⟨fun j5 h1 => ?_, ?_⟩
  refine tc tbk 5 (.mk ?_)
  obtain ⟨x6, e6, h1⟩ := bind_e h1
  refine sC cal76 (d_slices_Equal_api_Layer_api_Layer_c e6) ?_
  refine tr tbk 1 (.mk ?_)
  cases x6
  replace h1 := cf h1
  refine tr tbk 8 (.mk ?_)
  exact lf h1 () leA
  replace h1 := ct h1
  refine tr tbk 4 (.mk ?_)
  obtain ⟨x7, e7, h1⟩ := bnd_e h1
  refine sY (yv_areql (r' := x7) rfl Tryz.underlying44 sz3 c3 (by decide) rfl rfl (.cons (.int Tryz.underlying3) sh3 (.cons (.int Tryz.underlying3) sh3 (.cons (.int Tryz.underlying3) sh3 (.nil _)))) ((A3_Int.eqv (a1.Pend : A3_Int) (a2.Pend : A3_Int)).trans e7)) ?_
  refine tr tbk 3 (.mk ?_)
  exact lf h1 () leA
  rintro y0_1 _ h0
  obtain rfl := nxt_e h0
  refine wR hret (rT .nil) ?_
  exact .refl _
def d_slices_Equal_api_Roll_api_Roll_L0 (a1 : List GRoll) (a2 : List GRoll) : Nat → Int → Option ((Unit) ⊕ (Bool))
  | 0, _ => none
  | n + 1, y0_1 =>
    bnd (decide (y0_1 < (a1.length : Int))) fun x5 =>
    cond x5 ((ix a1 y0_1).bind fun x6 =>
    (ix a2 y0_1).bind fun x7 =>
    bnd (!decide ((x6 : GRoll) = (x7 : GRoll))) fun x8 =>
    cond x8 (esc (some ((false : Bool)))) (bnd (w64 (y0_1 + 1)) fun x9 =>
    d_slices_Equal_api_Roll_api_Roll_L0 a1 a2 n (x9 : Int))) (brk ())
def d_slices_Equal_api_Roll_api_Roll (n : Nat) (a1 : List GRoll) (a2 : List GRoll) : Option (Bool) :=
bnd (decide ((a1.length : Int) ≠ (a2.length : Int))) fun x3 =>
cond x3 (some ((false : Bool))) ((show Option ((Unit) ⊕ (Bool)) from
d_slices_Equal_api_Roll_api_Roll_L0 a1 a2 n (0 : Int)).bind <| sel <| fun _ =>
some ((true : Bool)))
theorem d_slices_Equal_api_Roll_api_Roll_c {n : Nat} {a1 : List GRoll} {a2 : List GRoll} {r : Bool} (h0 : d_slices_Equal_api_Roll_api_Roll n a1 a2 = some r) : PP Tryz.prog 54 [lst 11 GRoll.av a1, lst 11 GRoll.av a2] (fun y => y = boo r) := by
  unfold d_slices_Equal_api_Roll_api_Roll at h0
  refine pp_of_pc (R0 := fun y H => Cv (frzH H) y (boo r)) ?_ (fun y H hc => ⟨_, rfl, pvB r, hc⟩)
  refine pcw (c := _) Tryz.func54 rfl rfl ?_; intro Q hret hnorm
  refine tc tbk 8 (.mk ?_)
  refine sY (yv_len_sl rfl Tryz.underlying62 rfl (lst_len _)) ?_
  refine tr tbk 1 (.mk ?_)
  refine sY (yv_len_sl rfl Tryz.underlying62 rfl (lst_len _)) ?_
  refine nb tbk h0 fun x3 h0 => ?_
  refine tr tbk 1 (.mk ?_)
  cases x3
  replace h0 := cf h0
  refine tc tbk 6 (.mk ?_)
  refine sY (yv_len_sl rfl Tryz.underlying62 rfl (lst_len _)) ?_
  refine tr tbk 2 (.mk ?_)
  refine jnE h0 [4] [] (fun (a : Unit) (k : Unit) => []) (fun a k => []) ⟨fun j4 h1 h0 => ?_, ?_⟩
  refine tc tbk 1 (.mk ?_)
  refine lp (fun n (a : Int) => d_slices_Equal_api_Roll_api_Roll_L0 a1 a2 n a) (0 : Int) () h1 [0, 1, 4, 12] [] (fun (a : Int) (k : Unit) => [(13, int a)]) (fun a k => []) (fun _ => rfl) ⟨leA, ?_⟩
  rintro n y0_1 _ hm h1
  replace h1 : d_slices_Equal_api_Roll_api_Roll_L0 a1 a2 (n + 1) y0_1 = some _ := h1
  rw [d_slices_Equal_api_Roll_api_Roll_L0] at h1
  refine tc tbk 2 (.mk ?_)
  refine nb tbk h1 fun x5 h1 => ?_
  refine tr tbk 2 (.mk ?_)
  cases x5
  replace h1 := cf h1
  refine tc tbk 2 (.mk ?_)
  exact lfE h1 () leA
  replace h1 := ct h1
  refine tc tbk 10 (.mk ?_)
  refine c_drawE [0, 0, 3, 7, 0, 0, 48, 112, 255] (fun i => []) (fun i => []) (fun i => true) [0, 1, 2, 3, 4, 5, 6, 7, 8] mixed (by kernel_rfl) ?_; intro K hK
  iterate 2 refine eM ?_
  obtain ⟨x6, e6, h1⟩ := bind_e h1
  refine eP (fun H hH => yv_ixT rfl Tryz.underlying62 sh119 rfl rfl e6) ?_
  refine eP (fun H hH => yv_load rfl sh119 rfl (.pp _) rfl) ?_
  iterate 2 refine eM ?_
  obtain ⟨x7, e7, h1⟩ := bind_e h1
  refine eP (fun H hH => yv_ixT rfl Tryz.underlying62 sh119 rfl rfl e7) ?_
  refine eP (fun H hH => yv_load rfl sh119 rfl (.pp _) rfl) ?_
  obtain ⟨x8, e8, h1⟩ := bnd_e h1
  refine eP (fun H hH => yv_aneq (r' := x8) rfl fl119 rfl rfl (.cons (.int Tryz.underlying3) sh3 (.cons (.int Tryz.underlying3) sh3 (.cons (.int Tryz.underlying3) sh3 (.cons (.int Tryz.underlying3) sh3 (.cons (.int Tryz.underlying3) sh3 (.cons (.int Tryz.underlying3) sh3 (.cons (.int Tryz.underlying3) sh3 (.cons (.int Tryz.underlying3) sh3 (.cons (.int Tryz.underlying3) sh3 (.cons (.int Tryz.underlying3) sh3 (.cons (.int Tryz.underlying3) sh3 (.nil _)))))))))))) ((congrArg Bool.not (GRoll.eqv (x6 : GRoll) (x7 : GRoll))).trans e8)) ?_
  refine de_nil (hK _ ?_)
  cases x8
  replace h1 := cf h1
  refine tc tbk 4 (.mk ?_)
  refine ni tbk h1 fun x9 h1 => ?_
  refine tr tbk 2 (.mk ?_)
  exact bk x9 () h1 leA
  replace h1 := ct h1
  refine tc tbk 5 (.mk ?_)
  obtain ⟨c10, hX, hj⟩ := esc_e h1; subst hj; replace h0 := hX.trans (sel_r h0)
  obtain rfl := nxt_e h0
  refine wR hret (rT .nil) ?_
  exact .refl _
  rintro _ _ h0
  refine tc tbk 4 (.mk ?_)
  obtain rfl := nxt_e h0
  refine wR hret (rT .nil) ?_
  exact .refl _
  replace h0 := ct h0
  refine tc tbk 5 (.mk ?_)
  obtain rfl := nxt_e h0
  refine wR hret (rT .nil) ?_
  exact .refl _
def d_stock_sameEnt_L0 (a1 : GEnt) (a2 : GEnt) : Nat → Int → Option ((Unit) ⊕ ((Bool)))
  | 0, _ => none
  | n + 1, y0_1 =>
    bnd (decide (y0_1 < (a1.Pools.length : Int))) fun x11 =>
    cond x11 ((ix a1.Pools y0_1).bind fun x12 =>
    (ix a2.Pools y0_1).bind fun x14 =>
    (d_stock_samePool n x12 x14).bind fun x16 =>
    bnd (!x16) fun x17 =>
    cond x17 (esc (some (false : Bool))) (bnd (w64 (y0_1 + 1)) fun x18 =>
    d_stock_sameEnt_L0 a1 a2 n (x18 : Int))) (brk ())
def d_stock_sameEnt_L1 (a1 : GEnt) : Nat → Option (Unit)
  | 0 => none
  | n + 1 =>
    bnd (decide (0 < (a1.Ahead.length : Int))) fun x27 =>
    asrt (x27 = false) <|
    some ()
def d_stock_sameEnt (n : Nat) (a1 : GEnt) (a2 : GEnt) : Option (Bool) :=
(show Option (Bool) from
bnd (decide (a1.Now = a2.Now)) fun x6 =>
cond x6 (bnd (decide (a1.Closed = a2.Closed)) fun x7 =>
cond x7 ((show Option ((Bool)) from
bnd (decide ((a1.Pools.length : Int) ≠ (a2.Pools.length : Int))) fun x9 =>
cond x9 (some (false : Bool)) ((show Option ((Unit) ⊕ ((Bool))) from
d_stock_sameEnt_L0 a1 a2 n (0 : Int)).bind <| sel <| fun _ =>
some (true : Bool))).bind <| fun y2_1 =>
cond y2_1 ((d_slices_Equal_int_int n a1.Bal a2.Bal).bind fun x20 =>
cond x20 ((d_slices_Equal_api_Roll_api_Roll n a1.Rolls a2.Rolls).bind fun x21 =>
cond x21 ((d_slices_Equal_int_int n a1.Prices a2.Prices).bind fun x22 =>
cond x22 ((d_slices_Equal_int_int n a1.Down a2.Down).bind fun x23 =>
cond x23 ((show Option ((Unit)) from
bnd (decide ((a1.Ahead.length : Int) ≠ (a2.Ahead.length : Int))) fun x25 =>
asrt (x25 = false) <|
(show Option (Unit) from
d_stock_sameEnt_L1 a1 n).bind <| fun _ =>
some ()).bind <| fun _ =>
some (true : Bool)) (some (false : Bool))) (some (false : Bool))) (some (false : Bool))) (some (false : Bool))) (some (false : Bool))) (some (false : Bool))) (some (false : Bool))).bind <| fun y6_1 =>
some ((y6_1 : Bool))
theorem d_stock_sameEnt_c {n : Nat} {a1 : GEnt} {a2 : GEnt} {r : Bool} (h0 : d_stock_sameEnt n a1 a2 = some r) : PP Tryz.prog 25 [.agg [int a1.Now, boo a1.Closed, lst 4 GPool.av a1.Pools, lst 1 fI a1.Bal, lst 11 GRoll.av a1.Rolls, lst 1 fI a1.Prices, lst 1 fI a1.Down, lst 8 GEnt.av a1.Ahead], .agg [int a2.Now, boo a2.Closed, lst 4 GPool.av a2.Pools, lst 1 fI a2.Bal, lst 11 GRoll.av a2.Rolls, lst 1 fI a2.Prices, lst 1 fI a2.Down, lst 8 GEnt.av a2.Ahead]] (fun y => y = boo r) := by
  unfold d_stock_sameEnt at h0
  refine pp_of_pc (R0 := fun y H => Cv (frzH H) y (boo r)) ?_ (fun y H hc => ⟨_, rfl, pvB r, hc⟩)
  refine pcw (c := _) Tryz.func25 rfl rfl ?_; intro Q hret hnorm
  refine tc tbk 2 (.mk ?_)
  refine sB 1 fun v3 => ?_
  refine sB 2 fun v4 => ?_
  refine tr tbk 3 (.mk ?_)
  refine jn h0 [] [] (fun (a : Bool) (k : Unit) => [(4, boo a)]) (fun a k => []) ⟨fun j5 h1 => ?_, ?_⟩
  refine tc tbk 5 (.mk ?_)
  refine nb tbk h1 fun x6 h1 => ?_
  refine tr tbk 1 (.mk ?_)
  cases x6
  replace h1 := cf h1
  refine tr tbk 50 (.mk ?_)
  exact lf h1 () leA
  replace h1 := ct h1
  refine tr tbk 4 (.mk ?_)
  obtain ⟨x7, e7, h1⟩ := bnd_e h1
  refine sY (yv_to (y := boo x7) (yv_beql rfl Tryz.underlying4 rfl rfl) (congrArg boo e7)) ?_
  refine tr tbk 2 (.mk ?_)
  cases x7
  replace h1 := cf h1
  refine tr tbk 43 (.mk ?_)
  exact lf h1 () leA
  replace h1 := ct h1
  refine tr tbk 4 (.mk ?_)
  obtain ⟨j8, h2, h1⟩ := bind_e h1
  refine rse (Out := fun y H' => (∃ (a : Bool) (k : Unit), a = j8 ∧ y = boo a ∧ H' = hk [(1, ⟨64, 8, true, true, v3, [[int a1.Now, boo a1.Closed, lst 4 GPool.av a1.Pools, lst 1 fI a1.Bal, lst 11 GRoll.av a1.Rolls, lst 1 fI a1.Prices, lst 1 fI a1.Down, lst 8 GEnt.av a1.Ahead]]⟩), (2, ⟨64, 8, true, true, v4, [[int a2.Now, boo a2.Closed, lst 4 GPool.av a2.Pools, lst 1 fI a2.Bal, lst 11 GRoll.av a2.Rolls, lst 1 fI a2.Prices, lst 1 fI a2.Down, lst 8 GEnt.av a2.Ahead]]⟩)])) rfl rfl rfl (yl_call rfl rfl (.cons rfl (.cons rfl (.cons rfl .nil))) cal52 ?_) ?_
  refine pcw (c := _) Tryz.func52 rfl rfl ?_; intro Q hret hnorm
  refine tc tbk 8 (.mk ?_)
  refine sY (yv_len_sl rfl Tryz.underlying61 rfl (lst_len _)) ?_
  refine tr tbk 1 (.mk ?_)
  refine sY (yv_len_sl rfl Tryz.underlying61 rfl (lst_len _)) ?_
  refine nb tbk h2 fun x9 h2 => ?_
  refine tr tbk 1 (.mk ?_)
  cases x9
  replace h2 := cf h2
  refine tc tbk 6 (.mk ?_)
  refine sY (yv_len_sl rfl Tryz.underlying61 rfl (lst_len _)) ?_
  refine tr tbk 2 (.mk ?_)
  refine jnE h2 [6] [1, 2] (fun (a : Unit) (k : Unit) => []) (fun a k => []) ⟨fun j10 h3 h2 => ?_, ?_⟩
  refine tc tbk 1 (.mk ?_)
  refine lp (fun n (a : Int) => d_stock_sameEnt_L0 a1 a2 n a) (0 : Int) () h3 [1, 2, 6, 15, 16] [1, 2] (fun (a : Int) (k : Unit) => [(17, int a)]) (fun a k => []) (fun _ => rfl) ⟨leA, ?_⟩
  rintro n y0_1 _ hm h3
  replace h3 : d_stock_sameEnt_L0 a1 a2 (n + 1) y0_1 = some _ := h3
  rw [d_stock_sameEnt_L0] at h3
  refine tc tbk 2 (.mk ?_)
  refine nb tbk h3 fun x11 h3 => ?_
  refine tr tbk 2 (.mk ?_)
  cases x11
  replace h3 := cf h3
  refine tc tbk 2 (.mk ?_)
  exact lfE h3 () leA
  replace h3 := ct h3
  refine tc tbk 7 (.mk ?_)
  obtain ⟨x12, e12, h3⟩ := bind_e h3
  refine sY (yv_ixT rfl Tryz.underlying61 sh46 rfl rfl e12) ?_
  refine tr tbk 1 (.mk ?_)
  refine sA 3 z46 fun v13 => ?_
  refine tr tbk 1 (.mk ?_)
  refine sS ⟨46, 4, true, true, v13, [[lst 3 GLayer.av x12.Layers, int x12.Pend.a0, int x12.Pend.a1, int x12.Pend.a2]]⟩ sh46 ?_
  refine tr tbk 5 (.mk ?_)
  obtain ⟨x14, e14, h3⟩ := bind_e h3
  refine sY (yv_ixT rfl Tryz.underlying61 sh46 rfl rfl e14) ?_
  refine tr tbk 1 (.mk ?_)
  refine sA 4 z46 fun v15 => ?_
  refine sS ⟨46, 4, true, true, v15, [[lst 3 GLayer.av x14.Layers, int x14.Pend.a0, int x14.Pend.a1, int x14.Pend.a2]]⟩ sh46 ?_
  refine tr tbk 6 (.mk ?_)
  obtain ⟨x16, e16, h3⟩ := bind_e h3
  refine sC cal53 (d_stock_samePool_c e16) ?_
  refine nb tbk h3 fun x17 h3 => ?_
  refine tr tbk 1 (.mk ?_)
  cases x17
  replace h3 := cf h3
  refine tc tbk 4 (.mk ?_)
  refine ni tbk h3 fun x18 h3 => ?_
  refine tr tbk 2 (.mk ?_)
  exact bk x18 () h3 leA
  replace h3 := ct h3
  refine tc tbk 5 (.mk ?_)
  obtain ⟨c19, hX, hj⟩ := esc_e h3; subst hj; replace h2 := hX.trans (sel_r h2)
  obtain rfl := nxt_e h2
  refine w_ret (hret _ _ (hk [(1, ⟨64, 8, true, true, v3, [[int a1.Now, boo a1.Closed, lst 4 GPool.av a1.Pools, lst 1 fI a1.Bal, lst 11 GRoll.av a1.Rolls, lst 1 fI a1.Prices, lst 1 fI a1.Down, lst 8 GEnt.av a1.Ahead]]⟩), (2, ⟨64, 8, true, true, v4, [[int a2.Now, boo a2.Closed, lst 4 GPool.av a2.Pools, lst 1 fI a2.Bal, lst 11 GRoll.av a2.Rolls, lst 1 fI a2.Prices, lst 1 fI a2.Down, lst 8 GEnt.av a2.Ahead]]⟩)]) (.tmp rfl .nil) (HK.le ⟨rfl, rfl, trivial⟩) ?_)
  exact ⟨false, (), rfl, rfl, rfl⟩
  rintro _ _ h2
  refine tc tbk 4 (.mk ?_)
  obtain rfl := nxt_e h2
  refine w_ret (hret _ _ (hk [(1, ⟨64, 8, true, true, v3, [[int a1.Now, boo a1.Closed, lst 4 GPool.av a1.Pools, lst 1 fI a1.Bal, lst 11 GRoll.av a1.Rolls, lst 1 fI a1.Prices, lst 1 fI a1.Down, lst 8 GEnt.av a1.Ahead]]⟩), (2, ⟨64, 8, true, true, v4, [[int a2.Now, boo a2.Closed, lst 4 GPool.av a2.Pools, lst 1 fI a2.Bal, lst 11 GRoll.av a2.Rolls, lst 1 fI a2.Prices, lst 1 fI a2.Down, lst 8 GEnt.av a2.Ahead]]⟩)]) (.tmp rfl .nil) (HK.le ⟨rfl, rfl, trivial⟩) ?_)
  exact ⟨true, (), rfl, rfl, rfl⟩
  replace h2 := ct h2
  refine tc tbk 5 (.mk ?_)
  obtain rfl := nxt_e h2
  refine w_ret (hret _ _ (hk [(1, ⟨64, 8, true, true, v3, [[int a1.Now, boo a1.Closed, lst 4 GPool.av a1.Pools, lst 1 fI a1.Bal, lst 11 GRoll.av a1.Rolls, lst 1 fI a1.Prices, lst 1 fI a1.Down, lst 8 GEnt.av a1.Ahead]]⟩), (2, ⟨64, 8, true, true, v4, [[int a2.Now, boo a2.Closed, lst 4 GPool.av a2.Pools, lst 1 fI a2.Bal, lst 11 GRoll.av a2.Rolls, lst 1 fI a2.Prices, lst 1 fI a2.Down, lst 8 GEnt.av a2.Ahead]]⟩)]) (.tmp rfl .nil) (HK.le ⟨rfl, rfl, trivial⟩) ?_)
  exact ⟨false, (), rfl, rfl, rfl⟩
  rintro y _ ⟨y2_1, _, rfl, hc, rfl⟩
  subst hc
  refine tr tbk 2 (.mk ?_)
  cases y2_1
  replace h1 := cf h1
  refine tr tbk 36 (.mk ?_)
  exact lf h1 () leA
  replace h1 := ct h1
  refine tr tbk 4 (.mk ?_)
  obtain ⟨x20, e20, h1⟩ := bind_e h1
  refine sC cal50 (d_slices_Equal_int_int_c e20) ?_
  refine tr tbk 2 (.mk ?_)
  cases x20
  replace h1 := cf h1
  refine tr tbk 29 (.mk ?_)
  exact lf h1 () leA
  replace h1 := ct h1
  refine tr tbk 4 (.mk ?_)
  obtain ⟨x21, e21, h1⟩ := bind_e h1
  refine sC cal54 (d_slices_Equal_api_Roll_api_Roll_c e21) ?_
  refine tr tbk 2 (.mk ?_)
  cases x21
  replace h1 := cf h1
  refine tr tbk 22 (.mk ?_)
  exact lf h1 () leA
  replace h1 := ct h1
  refine tr tbk 4 (.mk ?_)
  obtain ⟨x22, e22, h1⟩ := bind_e h1
  refine sC cal50 (d_slices_Equal_int_int_c e22) ?_
  refine tr tbk 2 (.mk ?_)
  cases x22
  replace h1 := cf h1
  refine tr tbk 15 (.mk ?_)
  exact lf h1 () leA
  replace h1 := ct h1
  refine tr tbk 4 (.mk ?_)
  obtain ⟨x23, e23, h1⟩ := bind_e h1
  refine sC cal50 (d_slices_Equal_int_int_c e23) ?_
  refine tr tbk 2 (.mk ?_)
  cases x23
  replace h1 := cf h1
  refine tr tbk 8 (.mk ?_)
  exact lf h1 () leA
  replace h1 := ct h1
  refine tr tbk 4 (.mk ?_)
  obtain ⟨j24, h2, h1⟩ := bind_e h1
  refine rse (Out := fun y H' => (∃ (a : Unit) (k : Unit), a = j24 ∧ y = boo true ∧ H' = hk [(1, ⟨64, 8, true, true, v3, [[int a1.Now, boo a1.Closed, lst 4 GPool.av a1.Pools, lst 1 fI a1.Bal, lst 11 GRoll.av a1.Rolls, lst 1 fI a1.Prices, lst 1 fI a1.Down, lst 8 GEnt.av a1.Ahead]]⟩), (2, ⟨64, 8, true, true, v4, [[int a2.Now, boo a2.Closed, lst 4 GPool.av a2.Pools, lst 1 fI a2.Bal, lst 11 GRoll.av a2.Rolls, lst 1 fI a2.Prices, lst 1 fI a2.Down, lst 8 GEnt.av a2.Ahead]]⟩)])) rfl rfl rfl (yl_call rfl rfl (.cons rfl (.cons rfl (.cons rfl .nil))) cal24 ?_) ?_
  refine pcw (c := _) Tryz.func24 rfl rfl ?_; intro Q hret hnorm
  refine tc tbk 8 (.mk ?_)
  refine sY (yv_len_sl rfl Tryz.underlying27 rfl (lst_len _)) ?_
  refine tr tbk 1 (.mk ?_)
  refine sY (yv_len_sl rfl Tryz.underlying27 rfl (lst_len _)) ?_
  refine nb tbk h2 fun x25 h2 => ?_
  refine tr tbk 1 (.mk ?_)
  replace h2 := asrt_e h2
  obtain ⟨rfl, h2⟩ := h2
  refine tc tbk 6 (.mk ?_)
  refine sY (yv_len_sl rfl Tryz.underlying27 rfl (lst_len _)) ?_
  refine tr tbk 2 (.mk ?_)
  refine jn h2 [6] [1, 2] (fun (a : Unit) (k : Unit) => []) (fun a k => []) ⟨fun j26 h3 => ?_, ?_⟩
  refine tc tbk 1 (.mk ?_)
  refine lp (fun n (a : Unit) => d_stock_sameEnt_L1 a1 n) () () h3 [1, 2, 6, 15, 16, 17] [1, 2] (fun (a : Unit) (k : Unit) => []) (fun a k => []) (fun _ => rfl) ⟨leA, ?_⟩
  rintro n _ _ hm h3
  replace h3 : d_stock_sameEnt_L1 a1 (n + 1) = some _ := h3
  rw [d_stock_sameEnt_L1] at h3
  refine tc tbk 2 (.mk ?_)
  refine nb tbk h3 fun x27 h3 => ?_
  refine tr tbk 2 (.mk ?_)
  replace h3 := asrt_e h3
  obtain ⟨rfl, h3⟩ := h3
  refine tc tbk 2 (.mk ?_)
  exact lf h3 () leA
  rintro _ _ h2
  refine tc tbk 4 (.mk ?_)
  obtain rfl := nxt_e h2
  refine w_ret (hret _ _ (hk [(1, ⟨64, 8, true, true, v3, [[int a1.Now, boo a1.Closed, lst 4 GPool.av a1.Pools, lst 1 fI a1.Bal, lst 11 GRoll.av a1.Rolls, lst 1 fI a1.Prices, lst 1 fI a1.Down, lst 8 GEnt.av a1.Ahead]]⟩), (2, ⟨64, 8, true, true, v4, [[int a2.Now, boo a2.Closed, lst 4 GPool.av a2.Pools, lst 1 fI a2.Bal, lst 11 GRoll.av a2.Rolls, lst 1 fI a2.Prices, lst 1 fI a2.Down, lst 8 GEnt.av a2.Ahead]]⟩)]) (.tmp rfl .nil) (HK.le ⟨rfl, rfl, trivial⟩) ?_)
  exact ⟨(), (), rfl, rfl, rfl⟩
  rintro y _ ⟨_, _, rfl, hc, rfl⟩
  subst hc
  refine tr tbk 3 (.mk ?_)
  exact lf h1 () leA
  rintro y6_1 _ h0
  obtain rfl := nxt_e h0
  refine wR hret (rT .nil) ?_
  exact .refl _
def d_slices_Equal_api_Receipt_api_Receipt_L0 (a1 : List GReceipt) (a2 : List GReceipt) : Nat → Int → Option ((Unit) ⊕ (Bool))
  | 0, _ => none
  | n + 1, y0_1 =>
    bnd (decide (y0_1 < (a1.length : Int))) fun x5 =>
    cond x5 ((ix a1 y0_1).bind fun x6 =>
    (ix a2 y0_1).bind fun x7 =>
    bnd (!decide ((x6 : GReceipt) = (x7 : GReceipt))) fun x8 =>
    cond x8 (esc (some ((false : Bool)))) (bnd (w64 (y0_1 + 1)) fun x9 =>
    d_slices_Equal_api_Receipt_api_Receipt_L0 a1 a2 n (x9 : Int))) (brk ())
def d_slices_Equal_api_Receipt_api_Receipt (n : Nat) (a1 : List GReceipt) (a2 : List GReceipt) : Option (Bool) :=
bnd (decide ((a1.length : Int) ≠ (a2.length : Int))) fun x3 =>
cond x3 (some ((false : Bool))) ((show Option ((Unit) ⊕ (Bool)) from
d_slices_Equal_api_Receipt_api_Receipt_L0 a1 a2 n (0 : Int)).bind <| sel <| fun _ =>
some ((true : Bool)))
theorem d_slices_Equal_api_Receipt_api_Receipt_c {n : Nat} {a1 : List GReceipt} {a2 : List GReceipt} {r : Bool} (h0 : d_slices_Equal_api_Receipt_api_Receipt n a1 a2 = some r) : PP Tryz.prog 26 [lst 8 GReceipt.av a1, lst 8 GReceipt.av a2] (fun y => y = boo r) := by
  unfold d_slices_Equal_api_Receipt_api_Receipt at h0
  refine pp_of_pc (R0 := fun y H => Cv (frzH H) y (boo r)) ?_ (fun y H hc => ⟨_, rfl, pvB r, hc⟩)
  refine pcw (c := _) Tryz.func26 rfl rfl ?_; intro Q hret hnorm
  refine tc tbk 8 (.mk ?_)
  refine sY (yv_len_sl rfl Tryz.underlying28 rfl (lst_len _)) ?_
  refine tr tbk 1 (.mk ?_)
  refine sY (yv_len_sl rfl Tryz.underlying28 rfl (lst_len _)) ?_
  refine nb tbk h0 fun x3 h0 => ?_
  refine tr tbk 1 (.mk ?_)
  cases x3
  replace h0 := cf h0
  refine tc tbk 6 (.mk ?_)
  refine sY (yv_len_sl rfl Tryz.underlying28 rfl (lst_len _)) ?_
  refine tr tbk 2 (.mk ?_)
  refine jnE h0 [4] [] (fun (a : Unit) (k : Unit) => []) (fun a k => []) ⟨fun j4 h1 h0 => ?_, ?_⟩
  refine tc tbk 1 (.mk ?_)
  refine lp (fun n (a : Int) => d_slices_Equal_api_Receipt_api_Receipt_L0 a1 a2 n a) (0 : Int) () h1 [0, 1, 4, 12] [] (fun (a : Int) (k : Unit) => [(13, int a)]) (fun a k => []) (fun _ => rfl) ⟨leA, ?_⟩
  rintro n y0_1 _ hm h1
  replace h1 : d_slices_Equal_api_Receipt_api_Receipt_L0 a1 a2 (n + 1) y0_1 = some _ := h1
  rw [d_slices_Equal_api_Receipt_api_Receipt_L0] at h1
  refine tc tbk 2 (.mk ?_)
  refine nb tbk h1 fun x5 h1 => ?_
  refine tr tbk 2 (.mk ?_)
  cases x5
  replace h1 := cf h1
  refine tc tbk 2 (.mk ?_)
  exact lfE h1 () leA
  replace h1 := ct h1
  refine tc tbk 10 (.mk ?_)
  refine c_drawE [0, 0, 3, 7, 0, 0, 48, 112, 255] (fun i => []) (fun i => []) (fun i => true) [0, 1, 2, 3, 4, 5, 6, 7, 8] mixed (by kernel_rfl) ?_; intro K hK
  iterate 2 refine eM ?_
  obtain ⟨x6, e6, h1⟩ := bind_e h1
  refine eP (fun H hH => yv_ixT rfl Tryz.underlying28 sh78 rfl rfl e6) ?_
  refine eP (fun H hH => yv_load rfl sh78 rfl (.pp _) rfl) ?_
  iterate 2 refine eM ?_
  obtain ⟨x7, e7, h1⟩ := bind_e h1
  refine eP (fun H hH => yv_ixT rfl Tryz.underlying28 sh78 rfl rfl e7) ?_
  refine eP (fun H hH => yv_load rfl sh78 rfl (.pp _) rfl) ?_
  obtain ⟨x8, e8, h1⟩ := bnd_e h1
  refine eP (fun H hH => yv_aneq (r' := x8) rfl fl78 rfl rfl (.cons (.int Tryz.underlying3) sh3 (.cons (.int Tryz.underlying3) sh3 (.cons (.int Tryz.underlying3) sh3 (.cons (.int Tryz.underlying3) sh3 (.cons (.int Tryz.underlying3) sh3 (.cons (.int Tryz.underlying3) sh3 (.cons (.int Tryz.underlying3) sh3 (.cons (.int Tryz.underlying3) sh3 (.nil _))))))))) ((congrArg Bool.not (GReceipt.eqv (x6 : GReceipt) (x7 : GReceipt))).trans e8)) ?_
  refine de_nil (hK _ ?_)
  cases x8
  replace h1 := cf h1
  refine tc tbk 4 (.mk ?_)
  refine ni tbk h1 fun x9 h1 => ?_
  refine tr tbk 2 (.mk ?_)
  exact bk x9 () h1 leA
  replace h1 := ct h1
  refine tc tbk 5 (.mk ?_)
  obtain ⟨c10, hX, hj⟩ := esc_e h1; subst hj; replace h0 := hX.trans (sel_r h0)
  obtain rfl := nxt_e h0
  refine wR hret (rT .nil) ?_
  exact .refl _
  rintro _ _ h0
  refine tc tbk 4 (.mk ?_)
  obtain rfl := nxt_e h0
  refine wR hret (rT .nil) ?_
  exact .refl _
  replace h0 := ct h0
  refine tc tbk 5 (.mk ?_)
  obtain rfl := nxt_e h0
  refine wR hret (rT .nil) ?_
  exact .refl _
def d_slices_Equal_api_Sale_api_Sale_L0 (a1 : List GSale) (a2 : List GSale) : Nat → Int → Option ((Unit) ⊕ (Bool))
  | 0, _ => none
  | n + 1, y0_1 =>
    bnd (decide (y0_1 < (a1.length : Int))) fun x5 =>
    cond x5 ((ix a1 y0_1).bind fun x6 =>
    (ix a2 y0_1).bind fun x7 =>
    bnd (!decide ((x6 : GSale) = (x7 : GSale))) fun x8 =>
    cond x8 (esc (some ((false : Bool)))) (bnd (w64 (y0_1 + 1)) fun x9 =>
    d_slices_Equal_api_Sale_api_Sale_L0 a1 a2 n (x9 : Int))) (brk ())
def d_slices_Equal_api_Sale_api_Sale (n : Nat) (a1 : List GSale) (a2 : List GSale) : Option (Bool) :=
bnd (decide ((a1.length : Int) ≠ (a2.length : Int))) fun x3 =>
cond x3 (some ((false : Bool))) ((show Option ((Unit) ⊕ (Bool)) from
d_slices_Equal_api_Sale_api_Sale_L0 a1 a2 n (0 : Int)).bind <| sel <| fun _ =>
some ((true : Bool)))
theorem d_slices_Equal_api_Sale_api_Sale_c {n : Nat} {a1 : List GSale} {a2 : List GSale} {r : Bool} (h0 : d_slices_Equal_api_Sale_api_Sale n a1 a2 = some r) : PP Tryz.prog 27 [lst 9 GSale.av a1, lst 9 GSale.av a2] (fun y => y = boo r) := by
  unfold d_slices_Equal_api_Sale_api_Sale at h0
  refine pp_of_pc (R0 := fun y H => Cv (frzH H) y (boo r)) ?_ (fun y H hc => ⟨_, rfl, pvB r, hc⟩)
  refine pcw (c := _) Tryz.func27 rfl rfl ?_; intro Q hret hnorm
  refine tc tbk 8 (.mk ?_)
  refine sY (yv_len_sl rfl Tryz.underlying29 rfl (lst_len _)) ?_
  refine tr tbk 1 (.mk ?_)
  refine sY (yv_len_sl rfl Tryz.underlying29 rfl (lst_len _)) ?_
  refine nb tbk h0 fun x3 h0 => ?_
  refine tr tbk 1 (.mk ?_)
  cases x3
  replace h0 := cf h0
  refine tc tbk 6 (.mk ?_)
  refine sY (yv_len_sl rfl Tryz.underlying29 rfl (lst_len _)) ?_
  refine tr tbk 2 (.mk ?_)
  refine jnE h0 [4] [] (fun (a : Unit) (k : Unit) => []) (fun a k => []) ⟨fun j4 h1 h0 => ?_, ?_⟩
  refine tc tbk 1 (.mk ?_)
  refine lp (fun n (a : Int) => d_slices_Equal_api_Sale_api_Sale_L0 a1 a2 n a) (0 : Int) () h1 [0, 1, 4, 12] [] (fun (a : Int) (k : Unit) => [(13, int a)]) (fun a k => []) (fun _ => rfl) ⟨leA, ?_⟩
  rintro n y0_1 _ hm h1
  replace h1 : d_slices_Equal_api_Sale_api_Sale_L0 a1 a2 (n + 1) y0_1 = some _ := h1
  rw [d_slices_Equal_api_Sale_api_Sale_L0] at h1
  refine tc tbk 2 (.mk ?_)
  refine nb tbk h1 fun x5 h1 => ?_
  refine tr tbk 2 (.mk ?_)
  cases x5
  replace h1 := cf h1
  refine tc tbk 2 (.mk ?_)
  exact lfE h1 () leA
  replace h1 := ct h1
  refine tc tbk 10 (.mk ?_)
  refine c_drawE [0, 0, 3, 7, 0, 0, 48, 112, 255] (fun i => []) (fun i => []) (fun i => true) [0, 1, 2, 3, 4, 5, 6, 7, 8] mixed (by kernel_rfl) ?_; intro K hK
  iterate 2 refine eM ?_
  obtain ⟨x6, e6, h1⟩ := bind_e h1
  refine eP (fun H hH => yv_ixT rfl Tryz.underlying29 sh81 rfl rfl e6) ?_
  refine eP (fun H hH => yv_load rfl sh81 rfl (.pp _) rfl) ?_
  iterate 2 refine eM ?_
  obtain ⟨x7, e7, h1⟩ := bind_e h1
  refine eP (fun H hH => yv_ixT rfl Tryz.underlying29 sh81 rfl rfl e7) ?_
  refine eP (fun H hH => yv_load rfl sh81 rfl (.pp _) rfl) ?_
  obtain ⟨x8, e8, h1⟩ := bnd_e h1
  refine eP (fun H hH => yv_aneq (r' := x8) rfl fl81 rfl rfl (.cons (.int Tryz.underlying3) sh3 (.cons (.int Tryz.underlying3) sh3 (.cons (.int Tryz.underlying3) sh3 (.cons (.int Tryz.underlying3) sh3 (.cons (.int Tryz.underlying3) sh3 (.cons (.int Tryz.underlying3) sh3 (.cons (.int Tryz.underlying3) sh3 (.cons (.int Tryz.underlying3) sh3 (.cons (.bool Tryz.underlying4) sh4 (.nil _)))))))))) ((congrArg Bool.not (GSale.eqv (x6 : GSale) (x7 : GSale))).trans e8)) ?_
  refine de_nil (hK _ ?_)
  cases x8
  replace h1 := cf h1
  refine tc tbk 4 (.mk ?_)
  refine ni tbk h1 fun x9 h1 => ?_
  refine tr tbk 2 (.mk ?_)
  exact bk x9 () h1 leA
  replace h1 := ct h1
  refine tc tbk 5 (.mk ?_)
  obtain ⟨c10, hX, hj⟩ := esc_e h1; subst hj; replace h0 := hX.trans (sel_r h0)
  obtain rfl := nxt_e h0
  refine wR hret (rT .nil) ?_
  exact .refl _
  rintro _ _ h0
  refine tc tbk 4 (.mk ?_)
  obtain rfl := nxt_e h0
  refine wR hret (rT .nil) ?_
  exact .refl _
  replace h0 := ct h0
  refine tc tbk 5 (.mk ?_)
  obtain rfl := nxt_e h0
  refine wR hret (rT .nil) ?_
  exact .refl _
def d_slices_Equal_api_Transit_api_Transit_L0 (a1 : List GTransit) (a2 : List GTransit) : Nat → Int → Option ((Unit) ⊕ (Bool))
  | 0, _ => none
  | n + 1, y0_1 =>
    bnd (decide (y0_1 < (a1.length : Int))) fun x5 =>
    cond x5 ((ix a1 y0_1).bind fun x6 =>
    (ix a2 y0_1).bind fun x7 =>
    bnd (!decide ((x6 : GTransit) = (x7 : GTransit))) fun x8 =>
    cond x8 (esc (some ((false : Bool)))) (bnd (w64 (y0_1 + 1)) fun x9 =>
    d_slices_Equal_api_Transit_api_Transit_L0 a1 a2 n (x9 : Int))) (brk ())
def d_slices_Equal_api_Transit_api_Transit (n : Nat) (a1 : List GTransit) (a2 : List GTransit) : Option (Bool) :=
bnd (decide ((a1.length : Int) ≠ (a2.length : Int))) fun x3 =>
cond x3 (some ((false : Bool))) ((show Option ((Unit) ⊕ (Bool)) from
d_slices_Equal_api_Transit_api_Transit_L0 a1 a2 n (0 : Int)).bind <| sel <| fun _ =>
some ((true : Bool)))
theorem d_slices_Equal_api_Transit_api_Transit_c {n : Nat} {a1 : List GTransit} {a2 : List GTransit} {r : Bool} (h0 : d_slices_Equal_api_Transit_api_Transit n a1 a2 = some r) : PP Tryz.prog 28 [lst 6 GTransit.av a1, lst 6 GTransit.av a2] (fun y => y = boo r) := by
  unfold d_slices_Equal_api_Transit_api_Transit at h0
  refine pp_of_pc (R0 := fun y H => Cv (frzH H) y (boo r)) ?_ (fun y H hc => ⟨_, rfl, pvB r, hc⟩)
  refine pcw (c := _) Tryz.func28 rfl rfl ?_; intro Q hret hnorm
  refine tc tbk 8 (.mk ?_)
  refine sY (yv_len_sl rfl Tryz.underlying30 rfl (lst_len _)) ?_
  refine tr tbk 1 (.mk ?_)
  refine sY (yv_len_sl rfl Tryz.underlying30 rfl (lst_len _)) ?_
  refine nb tbk h0 fun x3 h0 => ?_
  refine tr tbk 1 (.mk ?_)
  cases x3
  replace h0 := cf h0
  refine tc tbk 6 (.mk ?_)
  refine sY (yv_len_sl rfl Tryz.underlying30 rfl (lst_len _)) ?_
  refine tr tbk 2 (.mk ?_)
  refine jnE h0 [4] [] (fun (a : Unit) (k : Unit) => []) (fun a k => []) ⟨fun j4 h1 h0 => ?_, ?_⟩
  refine tc tbk 1 (.mk ?_)
  refine lp (fun n (a : Int) => d_slices_Equal_api_Transit_api_Transit_L0 a1 a2 n a) (0 : Int) () h1 [0, 1, 4, 12] [] (fun (a : Int) (k : Unit) => [(13, int a)]) (fun a k => []) (fun _ => rfl) ⟨leA, ?_⟩
  rintro n y0_1 _ hm h1
  replace h1 : d_slices_Equal_api_Transit_api_Transit_L0 a1 a2 (n + 1) y0_1 = some _ := h1
  rw [d_slices_Equal_api_Transit_api_Transit_L0] at h1
  refine tc tbk 2 (.mk ?_)
  refine nb tbk h1 fun x5 h1 => ?_
  refine tr tbk 2 (.mk ?_)
  cases x5
  replace h1 := cf h1
  refine tc tbk 2 (.mk ?_)
  exact lfE h1 () leA
  replace h1 := ct h1
  refine tc tbk 10 (.mk ?_)
  refine c_drawE [0, 0, 3, 7, 0, 0, 48, 112, 255] (fun i => []) (fun i => []) (fun i => true) [0, 1, 2, 3, 4, 5, 6, 7, 8] mixed (by kernel_rfl) ?_; intro K hK
  iterate 2 refine eM ?_
  obtain ⟨x6, e6, h1⟩ := bind_e h1
  refine eP (fun H hH => yv_ixT rfl Tryz.underlying30 sh84 rfl rfl e6) ?_
  refine eP (fun H hH => yv_load rfl sh84 rfl (.pp _) rfl) ?_
  iterate 2 refine eM ?_
  obtain ⟨x7, e7, h1⟩ := bind_e h1
  refine eP (fun H hH => yv_ixT rfl Tryz.underlying30 sh84 rfl rfl e7) ?_
  refine eP (fun H hH => yv_load rfl sh84 rfl (.pp _) rfl) ?_
  obtain ⟨x8, e8, h1⟩ := bnd_e h1
  refine eP (fun H hH => yv_aneq (r' := x8) rfl fl84 rfl rfl (.cons (.int Tryz.underlying3) sh3 (.cons (.int Tryz.underlying3) sh3 (.cons (.int Tryz.underlying3) sh3 (.cons (.int Tryz.underlying3) sh3 (.cons (.int Tryz.underlying3) sh3 (.cons (.int Tryz.underlying3) sh3 (.nil _))))))) ((congrArg Bool.not (GTransit.eqv (x6 : GTransit) (x7 : GTransit))).trans e8)) ?_
  refine de_nil (hK _ ?_)
  cases x8
  replace h1 := cf h1
  refine tc tbk 4 (.mk ?_)
  refine ni tbk h1 fun x9 h1 => ?_
  refine tr tbk 2 (.mk ?_)
  exact bk x9 () h1 leA
  replace h1 := ct h1
  refine tc tbk 5 (.mk ?_)
  obtain ⟨c10, hX, hj⟩ := esc_e h1; subst hj; replace h0 := hX.trans (sel_r h0)
  obtain rfl := nxt_e h0
  refine wR hret (rT .nil) ?_
  exact .refl _
  rintro _ _ h0
  refine tc tbk 4 (.mk ?_)
  obtain rfl := nxt_e h0
  refine wR hret (rT .nil) ?_
  exact .refl _
  replace h0 := ct h0
  refine tc tbk 5 (.mk ?_)
  obtain rfl := nxt_e h0
  refine wR hret (rT .nil) ?_
  exact .refl _
def d_stock_Same_L0 (a1 : GState) (a2 : GState) : Nat → Int → Option ((Unit) ⊕ ((Bool)))
  | 0, _ => none
  | n + 1, y0_1 =>
    bnd (decide (y0_1 < (a1.Ents.length : Int))) fun x10 =>
    cond x10 ((ix a1.Ents y0_1).bind fun x11 =>
    (ix a2.Ents y0_1).bind fun x13 =>
    (d_stock_sameEnt n x11 x13).bind fun x15 =>
    bnd (!x15) fun x16 =>
    cond x16 (esc (some (false : Bool))) (bnd (w64 (y0_1 + 1)) fun x17 =>
    d_stock_Same_L0 a1 a2 n (x17 : Int))) (brk ())
def d_stock_Same (n : Nat) (a1 : GState) (a2 : GState) : Option (Bool) :=
(show Option (Bool) from
(d_master_Same n a1.Master a2.Master).bind fun x6 =>
cond x6 ((show Option ((Bool)) from
bnd (decide ((a1.Ents.length : Int) ≠ (a2.Ents.length : Int))) fun x8 =>
cond x8 (some (false : Bool)) ((show Option ((Unit) ⊕ ((Bool))) from
d_stock_Same_L0 a1 a2 n (0 : Int)).bind <| sel <| fun _ =>
some (true : Bool))).bind <| fun y2_1 =>
cond y2_1 ((d_slices_Equal_api_Receipt_api_Receipt n a1.Receipts a2.Receipts).bind fun x19 =>
cond x19 ((d_slices_Equal_api_Sale_api_Sale n a1.Sales a2.Sales).bind fun x20 =>
cond x20 ((d_slices_Equal_api_Transit_api_Transit n a1.Transits a2.Transits).bind fun x21 =>
cond x21 (bnd (decide (a1.Done = a2.Done)) fun x22 =>
some (x22 : Bool)) (some (false : Bool))) (some (false : Bool))) (some (false : Bool))) (some (false : Bool))) (some (false : Bool))).bind <| fun y3_1 =>
some ((y3_1 : Bool))
theorem d_stock_Same_c {n : Nat} {a1 : GState} {a2 : GState} {r : Bool} (h0 : d_stock_Same n a1 a2 = some r) : PP Tryz.prog 9 [.agg (GState.av a1), .agg (GState.av a2)] (fun y => y = boo r) := by
  unfold d_stock_Same at h0
  refine pp_of_pc (R0 := fun y H => Cv (frzH H) y (boo r)) ?_ (fun y H hc => ⟨_, rfl, pvB r, hc⟩)
  refine pcw (c := _) Tryz.func9 rfl rfl ?_; intro Q hret hnorm
  refine tc tbk 2 (.mk ?_)
  refine sB 1 fun v3 => ?_
  refine sB 2 fun v4 => ?_
  refine tr tbk 3 (.mk ?_)
  refine jn h0 [] [] (fun (a : Bool) (k : Unit) => [(4, boo a)]) (fun a k => []) ⟨fun j5 h1 => ?_, ?_⟩
  refine tc tbk 5 (.mk ?_)
  obtain ⟨x6, e6, h1⟩ := bind_e h1
  refine sC cal23 (d_master_Same_c e6) ?_
  refine tr tbk 1 (.mk ?_)
  cases x6
  replace h1 := cf h1
  refine tr tbk 36 (.mk ?_)
  exact lf h1 () leA
  replace h1 := ct h1
  refine tr tbk 4 (.mk ?_)
  obtain ⟨j7, h2, h1⟩ := bind_e h1
  refine rse (Out := fun y H' => (∃ (a : Bool) (k : Unit), a = j7 ∧ y = boo a ∧ H' = hk [(1, ⟨32, 10, true, true, v3, [(GState.av a1)]⟩), (2, ⟨32, 10, true, true, v4, [(GState.av a2)]⟩)])) rfl rfl rfl (yl_call rfl rfl (.cons rfl (.cons rfl (.cons rfl .nil))) cal24 ?_) ?_
  refine pcw (c := _) Tryz.func24 rfl rfl ?_; intro Q hret hnorm
  refine tc tbk 8 (.mk ?_)
  refine sY (yv_len_sl rfl Tryz.underlying27 rfl (lst_len _)) ?_
  refine tr tbk 1 (.mk ?_)
  refine sY (yv_len_sl rfl Tryz.underlying27 rfl (lst_len _)) ?_
  refine nb tbk h2 fun x8 h2 => ?_
  refine tr tbk 1 (.mk ?_)
  cases x8
  replace h2 := cf h2
  refine tc tbk 6 (.mk ?_)
  refine sY (yv_len_sl rfl Tryz.underlying27 rfl (lst_len _)) ?_
  refine tr tbk 2 (.mk ?_)
  refine jnE h2 [6] [1, 2] (fun (a : Unit) (k : Unit) => []) (fun a k => []) ⟨fun j9 h3 h2 => ?_, ?_⟩
  refine tc tbk 1 (.mk ?_)
  refine lp (fun n (a : Int) => d_stock_Same_L0 a1 a2 n a) (0 : Int) () h3 [1, 2, 6, 15, 16] [1, 2] (fun (a : Int) (k : Unit) => [(17, int a)]) (fun a k => []) (fun _ => rfl) ⟨leA, ?_⟩
  rintro n y0_1 _ hm h3
  replace h3 : d_stock_Same_L0 a1 a2 (n + 1) y0_1 = some _ := h3
  rw [d_stock_Same_L0] at h3
  refine tc tbk 2 (.mk ?_)
  refine nb tbk h3 fun x10 h3 => ?_
  refine tr tbk 2 (.mk ?_)
  cases x10
  replace h3 := cf h3
  refine tc tbk 2 (.mk ?_)
  exact lfE h3 () leA
  replace h3 := ct h3
  refine tc tbk 7 (.mk ?_)
  obtain ⟨x11, e11, h3⟩ := bind_e h3
  refine sY (yv_to (y := .pp [int x11.Now, boo x11.Closed, lst 4 GPool.av x11.Pools, lst 1 fI x11.Bal, lst 11 GRoll.av x11.Rolls, lst 1 fI x11.Prices, lst 1 fI x11.Down, lst 8 GEnt.av x11.Ahead]) (yv_ixT rfl Tryz.underlying27 sh64 rfl rfl e11) (congrArg AV.pp (GEnt.av_eq x11))) ?_
  refine tr tbk 1 (.mk ?_)
  refine sA 3 z64 fun v12 => ?_
  refine tr tbk 1 (.mk ?_)
  refine sS ⟨64, 8, true, true, v12, [[int x11.Now, boo x11.Closed, lst 4 GPool.av x11.Pools, lst 1 fI x11.Bal, lst 11 GRoll.av x11.Rolls, lst 1 fI x11.Prices, lst 1 fI x11.Down, lst 8 GEnt.av x11.Ahead]]⟩ sh64 ?_
  refine tr tbk 5 (.mk ?_)
  obtain ⟨x13, e13, h3⟩ := bind_e h3
  refine sY (yv_to (y := .pp [int x13.Now, boo x13.Closed, lst 4 GPool.av x13.Pools, lst 1 fI x13.Bal, lst 11 GRoll.av x13.Rolls, lst 1 fI x13.Prices, lst 1 fI x13.Down, lst 8 GEnt.av x13.Ahead]) (yv_ixT rfl Tryz.underlying27 sh64 rfl rfl e13) (congrArg AV.pp (GEnt.av_eq x13))) ?_
  refine tr tbk 1 (.mk ?_)
  refine sA 4 z64 fun v14 => ?_
  refine sS ⟨64, 8, true, true, v14, [[int x13.Now, boo x13.Closed, lst 4 GPool.av x13.Pools, lst 1 fI x13.Bal, lst 11 GRoll.av x13.Rolls, lst 1 fI x13.Prices, lst 1 fI x13.Down, lst 8 GEnt.av x13.Ahead]]⟩ sh64 ?_
  refine tr tbk 6 (.mk ?_)
  obtain ⟨x15, e15, h3⟩ := bind_e h3
  refine sC cal25 (d_stock_sameEnt_c e15) ?_
  refine nb tbk h3 fun x16 h3 => ?_
  refine tr tbk 1 (.mk ?_)
  cases x16
  replace h3 := cf h3
  refine tc tbk 4 (.mk ?_)
  refine ni tbk h3 fun x17 h3 => ?_
  refine tr tbk 2 (.mk ?_)
  exact bk x17 () h3 leA
  replace h3 := ct h3
  refine tc tbk 5 (.mk ?_)
  obtain ⟨c18, hX, hj⟩ := esc_e h3; subst hj; replace h2 := hX.trans (sel_r h2)
  obtain rfl := nxt_e h2
  refine w_ret (hret _ _ (hk [(1, ⟨32, 10, true, true, v3, [(GState.av a1)]⟩), (2, ⟨32, 10, true, true, v4, [(GState.av a2)]⟩)]) (.tmp rfl .nil) (HK.le ⟨rfl, rfl, trivial⟩) ?_)
  exact ⟨false, (), rfl, rfl, rfl⟩
  rintro _ _ h2
  refine tc tbk 4 (.mk ?_)
  obtain rfl := nxt_e h2
  refine w_ret (hret _ _ (hk [(1, ⟨32, 10, true, true, v3, [(GState.av a1)]⟩), (2, ⟨32, 10, true, true, v4, [(GState.av a2)]⟩)]) (.tmp rfl .nil) (HK.le ⟨rfl, rfl, trivial⟩) ?_)
  exact ⟨true, (), rfl, rfl, rfl⟩
  replace h2 := ct h2
  refine tc tbk 5 (.mk ?_)
  obtain rfl := nxt_e h2
  refine w_ret (hret _ _ (hk [(1, ⟨32, 10, true, true, v3, [(GState.av a1)]⟩), (2, ⟨32, 10, true, true, v4, [(GState.av a2)]⟩)]) (.tmp rfl .nil) (HK.le ⟨rfl, rfl, trivial⟩) ?_)
  exact ⟨false, (), rfl, rfl, rfl⟩
  rintro y _ ⟨y2_1, _, rfl, hc, rfl⟩
  subst hc
  refine tr tbk 2 (.mk ?_)
  cases y2_1
  replace h1 := cf h1
  refine tr tbk 29 (.mk ?_)
  exact lf h1 () leA
  replace h1 := ct h1
  refine tr tbk 4 (.mk ?_)
  obtain ⟨x19, e19, h1⟩ := bind_e h1
  refine sC cal26 (d_slices_Equal_api_Receipt_api_Receipt_c e19) ?_
  refine tr tbk 2 (.mk ?_)
  cases x19
  replace h1 := cf h1
  refine tr tbk 22 (.mk ?_)
  exact lf h1 () leA
  replace h1 := ct h1
  refine tr tbk 4 (.mk ?_)
  obtain ⟨x20, e20, h1⟩ := bind_e h1
  refine sC cal27 (d_slices_Equal_api_Sale_api_Sale_c e20) ?_
  refine tr tbk 2 (.mk ?_)
  cases x20
  replace h1 := cf h1
  refine tr tbk 15 (.mk ?_)
  exact lf h1 () leA
  replace h1 := ct h1
  refine tr tbk 4 (.mk ?_)
  obtain ⟨x21, e21, h1⟩ := bind_e h1
  refine sC cal28 (d_slices_Equal_api_Transit_api_Transit_c e21) ?_
  refine tr tbk 2 (.mk ?_)
  cases x21
  replace h1 := cf h1
  refine tr tbk 8 (.mk ?_)
  exact lf h1 () leA
  replace h1 := ct h1
  refine tr tbk 4 (.mk ?_)
  refine nb tbk h1 fun x22 h1 => ?_
  refine tr tbk 3 (.mk ?_)
  exact lf h1 () leA
  rintro y3_1 _ h0
  obtain rfl := nxt_e h0
  refine wR hret (rT .nil) ?_
  exact .refl _
def d_stock_Post (a1 : GState) (a2 : Int) (a3 : List GLine) : Option (GState × Int) :=
(show Option (Bool) from
bnd (decide (a2 < 0)) fun x7 =>
cond x7 (some (true : Bool)) (bnd (decide (a2 ≥ (a1.Ents.length : Int))) fun x8 =>
some (x8 : Bool))).bind <| fun y0_1 =>
asrt (y0_1 = true) <|
some ((a1 : GState), (4 : Int))
theorem d_stock_Post_c {a1 : GState} {a2 : Int} {a3 : List GLine} {r : GState × Int} (h0 : d_stock_Post a1 a2 a3 = some r) : PP Tryz.prog 30 [.agg (GState.av a1), int a2, lst 2 GLine.av a3] (fun y => y = .tup [.agg (GState.av r.1), int r.2]) := by
  unfold d_stock_Post at h0
  refine pp_of_pc (R0 := fun y H => Cv (frzH H) y (.tup [.agg (GState.av r.1), int r.2])) ?_ (fun y H hc => ⟨_, rfl, .tup (pvl2 ((fun (a : GState) => PV.agg (GState.pvc a)) (r.1)) (pvI (r.2))), hc⟩)
  refine pcw (c := _) Tryz.func30 rfl rfl ?_; intro Q hret hnorm
  refine tc tbk 2 (.mk ?_)
  refine sB 1 fun v4 => ?_
  refine sA 2 z32 fun v5 => ?_
  refine tr tbk 4 (.mk ?_)
  refine jn h0 [1, 2, 3, 6, 7] [1, 2] (fun (a : Bool) (k : Unit) => [(20, boo a)]) (fun a k => []) ⟨fun j6 h1 => ?_, ?_⟩
  refine tc tbk 2 (.mk ?_)
  refine nb tbk h1 fun x7 h1 => ?_
  refine tr tbk 1 (.mk ?_)
  cases x7
  replace h1 := cf h1
  refine tr tbk 3 (.mk ?_)
  refine sY (yv_len_sl rfl Tryz.underlying27 rfl (lst_len _)) ?_
  refine nb tbk h1 fun x8 h1 => ?_
  refine tr tbk 2 (.mk ?_)
  exact lf h1 () leA
  replace h1 := ct h1
  refine tr tbk 7 (.mk ?_)
  exact lf h1 () leA
  rintro y0_1 _ h0
  replace h0 := asrt_e h0
  obtain ⟨rfl, h0⟩ := h0
  refine tc tbk 4 (.mk ?_)
  refine sS ⟨32, 10, true, true, v5, [(GState.av a1)]⟩ sh32 ?_
  refine tr tbk 2 (.mk ?_)
  obtain rfl := nxt_e h0
  refine wR hret (rC sh32 (rT .nil)) ?_
  exact .refl _
def d_master_in (a1 : Int) (a2 : Int) (a3 : Int) : Option (Bool) :=
(show Option (Bool) from
bnd (decide (a1 ≥ a2)) fun x5 =>
cond x5 (bnd (decide (a1 ≤ a3)) fun x6 =>
some (x6 : Bool)) (some (false : Bool))).bind <| fun y0_1 =>
some ((y0_1 : Bool))
theorem d_master_in_c {a1 : Int} {a2 : Int} {a3 : Int} {r : Bool} (h0 : d_master_in a1 a2 a3 = some r) : PP Tryz.prog 90 [int a1, int a2, int a3] (fun y => y = boo r) := by
  unfold d_master_in at h0
  refine pp_of_pc (R0 := fun y H => Cv (frzH H) y (boo r)) ?_ (fun y H hc => ⟨_, rfl, pvB r, hc⟩)
  refine pcw (c := _) Tryz.func90 rfl rfl ?_; intro Q hret hnorm
  refine tc tbk 5 (.mk ?_)
  refine jn h0 [] [] (fun (a : Bool) (k : Unit) => [(6, boo a)]) (fun a k => []) ⟨fun j4 h1 => ?_, ?_⟩
  refine tc tbk 3 (.mk ?_)
  refine nb tbk h1 fun x5 h1 => ?_
  refine tr tbk 1 (.mk ?_)
  cases x5
  replace h1 := cf h1
  refine tr tbk 6 (.mk ?_)
  exact lf h1 () leA
  replace h1 := ct h1
  refine tr tbk 2 (.mk ?_)
  refine nb tbk h1 fun x6 h1 => ?_
  refine tr tbk 3 (.mk ?_)
  exact lf h1 () leA
  rintro y0_1 _ h0
  obtain rfl := nxt_e h0
  refine wR hret (rT .nil) ?_
  exact .refl _
def d_master_Check_1 (a1 : Int) : Option (Bool) :=
(d_master_in a1 0 1073741824).bind fun x2 =>
some ((x2 : Bool))
theorem d_master_Check_1_c {a1 : Int} {r : Bool} (h0 : d_master_Check_1 a1 = some r) : PP Tryz.prog 89 [int a1] (fun y => y = boo r) := by
  unfold d_master_Check_1 at h0
  refine pp_of_pc (R0 := fun y H => Cv (frzH H) y (boo r)) ?_ (fun y H hc => ⟨_, rfl, pvB r, hc⟩)
  refine pcw (c := _) Tryz.func89 rfl rfl ?_; intro Q hret hnorm
  refine tc tbk 7 (.mk ?_)
  obtain ⟨x2, e2, h0⟩ := bind_e h0
  refine sC cal90 (d_master_in_c e2) ?_
  refine tr tbk 2 (.mk ?_)
  obtain rfl := nxt_e h0
  refine wR hret (rT .nil) ?_
  exact .refl _
def d_master_Check_2_1 (a1 : Int) : Option (Bool) :=
(d_master_in a1 1 4).bind fun x2 =>
some ((x2 : Bool))
theorem d_master_Check_2_1_c {a1 : Int} {r : Bool} (h0 : d_master_Check_2_1 a1 = some r) : PP Tryz.prog 93 [int a1] (fun y => y = boo r) := by
  unfold d_master_Check_2_1 at h0
  refine pp_of_pc (R0 := fun y H => Cv (frzH H) y (boo r)) ?_ (fun y H hc => ⟨_, rfl, pvB r, hc⟩)
  refine pcw (c := _) Tryz.func93 rfl rfl ?_; intro Q hret hnorm
  refine tc tbk 7 (.mk ?_)
  obtain ⟨x2, e2, h0⟩ := bind_e h0
  refine sC cal90 (d_master_in_c e2) ?_
  refine tr tbk 2 (.mk ?_)
  obtain rfl := nxt_e h0
  refine wR hret (rT .nil) ?_
  exact .refl _
def d_master_Check_L0 (a1 : GMaster) : Nat → Int → Option ((Unit) ⊕ ((Int)))
  | 0, _ => none
  | n + 1, y0_1 =>
    bnd (decide (y0_1 < (a1.Weights.length : Int))) fun x16 =>
    cond x16 ((ix a1.Weights y0_1).bind fun x17 =>
    (show Option ((Bool)) from
    (d_master_Check_1 x17).bind fun x19 =>
    bnd (!x19) fun x20 =>
    some (x20 : Bool)).bind <| fun y2_1 =>
    cond y2_1 (esc (some (y0_1 : Int))) (bnd (w64 (y0_1 + 1)) fun x21 =>
    d_master_Check_L0 a1 n (x21 : Int))) (brk ())
def d_master_Check_L2 (x33 : List Int) : Nat → Int → Option ((Unit) ⊕ ((Int)))
  | 0, _ => none
  | n + 1, y9_1 =>
    bnd (decide (y9_1 < (x33.length : Int))) fun x43 =>
    cond x43 ((ix x33 y9_1).bind fun x44 =>
    (show Option ((Bool)) from
    (d_master_Check_2_1 x44).bind fun x46 =>
    bnd (!x46) fun x47 =>
    some (x47 : Bool)).bind <| fun y11_1 =>
    cond y11_1 (esc (some (y9_1 : Int))) (bnd (w64 (y9_1 + 1)) fun x48 =>
    d_master_Check_L2 x33 n (x48 : Int))) (brk ())
def d_master_Check_L1 (a1 : GMaster) : Nat → Int → Option ((Unit) ⊕ ((Int)))
  | 0, _ => none
  | n + 1, y8_1 =>
    bnd (decide (y8_1 < (a1.Methods.length : Int))) fun x32 =>
    cond x32 ((ix a1.Methods y8_1).bind fun x33 =>
    (show Option ((Bool)) from
    (show Option ((Bool)) from
    (show Option ((Bool)) from
    (show Option (Bool) from
    bnd (decide ((x33.length : Int) = (a1.Weights.length : Int))) fun x39 =>
    cond x39 ((show Option ((Bool)) from
    (show Option ((Int)) from
    (show Option ((Unit) ⊕ ((Int))) from
    d_master_Check_L2 x33 n (0 : Int)).bind <| sel <| fun _ =>
    some ((-1) : Int)).bind <| fun y13_1 =>
    bnd (decide (y13_1 ≥ 0)) fun x50 =>
    some (x50 : Bool)).bind <| fun y14_1 =>
    bnd (!y14_1) fun x51 =>
    some (x51 : Bool)) (some (false : Bool))).bind <| fun y15_1 =>
    some (y15_1 : Bool)).bind <| fun y16_1 =>
    some (y16_1 : Bool)).bind <| fun y17_1 =>
    bnd (!y17_1) fun x52 =>
    some (x52 : Bool)).bind <| fun y19_1 =>
    cond y19_1 (esc (some (y8_1 : Int))) (bnd (w64 (y8_1 + 1)) fun x53 =>
    d_master_Check_L1 a1 n (x53 : Int))) (brk ())
def d_master_Check_L4 (x65 : List Int) : Nat → Int → Option ((Unit) ⊕ ((Int)))
  | 0, _ => none
  | n + 1, y26_1 =>
    bnd (decide (y26_1 < (x65.length : Int))) fun x75 =>
    cond x75 ((ix x65 y26_1).bind fun x76 =>
    (show Option ((Bool)) from
    (d_master_Check_1 x76).bind fun x78 =>
    bnd (!x78) fun x79 =>
    some (x79 : Bool)).bind <| fun y28_1 =>
    cond y28_1 (esc (some (y26_1 : Int))) (bnd (w64 (y26_1 + 1)) fun x80 =>
    d_master_Check_L4 x65 n (x80 : Int))) (brk ())
def d_master_Check_L3 (a1 : GMaster) : Nat → Int → Option ((Unit) ⊕ ((Int)))
  | 0, _ => none
  | n + 1, y25_1 =>
    bnd (decide (y25_1 < (a1.Costs.length : Int))) fun x64 =>
    cond x64 ((ix a1.Costs y25_1).bind fun x65 =>
    (show Option ((Bool)) from
    (show Option ((Bool)) from
    (show Option ((Bool)) from
    (show Option (Bool) from
    bnd (decide ((x65.length : Int) = (a1.Weights.length : Int))) fun x71 =>
    cond x71 ((show Option ((Bool)) from
    (show Option ((Int)) from
    (show Option ((Unit) ⊕ ((Int))) from
    d_master_Check_L4 x65 n (0 : Int)).bind <| sel <| fun _ =>
    some ((-1) : Int)).bind <| fun y30_1 =>
    bnd (decide (y30_1 ≥ 0)) fun x82 =>
    some (x82 : Bool)).bind <| fun y31_1 =>
    bnd (!y31_1) fun x83 =>
    some (x83 : Bool)) (some (false : Bool))).bind <| fun y32_1 =>
    some (y32_1 : Bool)).bind <| fun y33_1 =>
    some (y33_1 : Bool)).bind <| fun y34_1 =>
    bnd (!y34_1) fun x84 =>
    some (x84 : Bool)).bind <| fun y36_1 =>
    cond y36_1 (esc (some (y25_1 : Int))) (bnd (w64 (y25_1 + 1)) fun x85 =>
    d_master_Check_L3 a1 n (x85 : Int))) (brk ())
def d_master_Check (n : Nat) (a1 : GMaster) : Option (Bool) :=
(show Option (Bool) from
(d_master_in a1.Entities 1 4).bind fun x6 =>
cond x6 ((d_master_in a1.Periods 1 12).bind fun x7 =>
cond x7 ((d_master_in (a1.Weights.length : Int) 1 5).bind fun x8 =>
cond x8 ((show Option ((Bool)) from
(show Option (Bool) from
bnd (decide ((a1.Weights.length : Int) = (a1.Weights.length : Int))) fun x12 =>
cond x12 ((show Option ((Bool)) from
(show Option ((Int)) from
(show Option ((Unit) ⊕ ((Int))) from
d_master_Check_L0 a1 n (0 : Int)).bind <| sel <| fun _ =>
some ((-1) : Int)).bind <| fun y4_1 =>
bnd (decide (y4_1 ≥ 0)) fun x23 =>
some (x23 : Bool)).bind <| fun y5_1 =>
bnd (!y5_1) fun x24 =>
some (x24 : Bool)) (some (false : Bool))).bind <| fun y6_1 =>
some (y6_1 : Bool)).bind <| fun y7_1 =>
cond y7_1 ((show Option ((Bool)) from
(show Option (Bool) from
bnd (decide ((a1.Methods.length : Int) = a1.Entities)) fun x28 =>
cond x28 ((show Option ((Bool)) from
(show Option ((Int)) from
(show Option ((Unit) ⊕ ((Int))) from
d_master_Check_L1 a1 n (0 : Int)).bind <| sel <| fun _ =>
some ((-1) : Int)).bind <| fun y21_1 =>
bnd (decide (y21_1 ≥ 0)) fun x55 =>
some (x55 : Bool)).bind <| fun y22_1 =>
bnd (!y22_1) fun x56 =>
some (x56 : Bool)) (some (false : Bool))).bind <| fun y23_1 =>
some (y23_1 : Bool)).bind <| fun y24_1 =>
cond y24_1 ((show Option ((Bool)) from
(show Option (Bool) from
bnd (decide ((a1.Costs.length : Int) = a1.Entities)) fun x60 =>
cond x60 ((show Option ((Bool)) from
(show Option ((Int)) from
(show Option ((Unit) ⊕ ((Int))) from
d_master_Check_L3 a1 n (0 : Int)).bind <| sel <| fun _ =>
some ((-1) : Int)).bind <| fun y38_1 =>
bnd (decide (y38_1 ≥ 0)) fun x87 =>
some (x87 : Bool)).bind <| fun y39_1 =>
bnd (!y39_1) fun x88 =>
some (x88 : Bool)) (some (false : Bool))).bind <| fun y40_1 =>
some (y40_1 : Bool)).bind <| fun y41_1 =>
some (y41_1 : Bool)) (some (false : Bool))) (some (false : Bool))) (some (false : Bool))) (some (false : Bool))) (some (false : Bool))).bind <| fun y42_1 =>
some ((y42_1 : Bool))
theorem d_master_Check_c {n : Nat} {a1 : GMaster} {r : Bool} (h0 : d_master_Check n a1 = some r) : PP Tryz.prog 57 [.agg (GMaster.av a1)] (fun y => y = boo r) := by
  unfold d_master_Check at h0
  refine pp_of_pc (R0 := fun y H => Cv (frzH H) y (boo r)) ?_ (fun y H hc => ⟨_, rfl, pvB r, hc⟩)
  refine pcw (c := _) Tryz.func57 rfl rfl ?_; intro Q hret hnorm
  refine tc tbk 2 (.mk ?_)
  refine sB 1 fun v2 => ?_
  refine tr tbk 6 (.mk ?_)
  refine sY (yv_len_sl rfl Tryz.underlying22 rfl (lst_len _)) ?_
  refine sA 2 z3 fun v3 => ?_
  refine sS ⟨3, 1, true, true, v3, [[int (a1.Weights.length : Int)]]⟩ sh3 ?_
  refine tr tbk 3 (.mk ?_)
  refine sA 3 z148 fun v4 => ?_
  refine sS ⟨148, 1, true, true, v4, [[.fn (.func 89) [] []]]⟩ sh148 ?_
  refine tr tbk 12 (.mk ?_)
  refine jn h0 [] [] (fun (a : Bool) (k : Unit) => [(2, boo a)]) (fun a k => []) ⟨fun j5 h1 => ?_, ?_⟩
  refine tc tbk 3 (.mk ?_)
  obtain ⟨x6, e6, h1⟩ := bind_e h1
  refine sC cal90 (d_master_in_c e6) ?_
  refine tr tbk 1 (.mk ?_)
  cases x6
  replace h1 := cf h1
  refine tr tbk 33 (.mk ?_)
  exact lf h1 () leA
  replace h1 := ct h1
  refine tr tbk 2 (.mk ?_)
  obtain ⟨x7, e7, h1⟩ := bind_e h1
  refine sC cal90 (d_master_in_c e7) ?_
  refine tr tbk 2 (.mk ?_)
  cases x7
  replace h1 := cf h1
  refine tr tbk 28 (.mk ?_)
  exact lf h1 () leA
  replace h1 := ct h1
  refine tr tbk 1 (.mk ?_)
  obtain ⟨x8, e8, h1⟩ := bind_e h1
  refine sC cal90 (d_master_in_c e8) ?_
  refine tr tbk 2 (.mk ?_)
  cases x8
  replace h1 := cf h1
  refine tr tbk 24 (.mk ?_)
  exact lf h1 () leA
  replace h1 := ct h1
  refine tr tbk 4 (.mk ?_)
  obtain ⟨j9, h2, h1⟩ := bind_e h1
  refine rse (Out := fun y H' => (∃ (a : Bool) (k : Unit), a = j9 ∧ y = boo a ∧ H' = hk [(1, ⟨25, 5, true, true, v2, [[int a1.Entities, int a1.Periods, lst 1 fI a1.Weights, lst 1 (fL 1 fI) a1.Methods, lst 1 (fL 1 fI) a1.Costs]]⟩), (2, ⟨3, 1, true, true, v3, [[int (a1.Weights.length : Int)]]⟩), (3, ⟨148, 1, true, true, v4, [[.fn (.func 89) [] []]]⟩)])) rfl rfl rfl (yl_call rfl rfl (.cons rfl (.cons rfl (.cons rfl .nil))) cal92 ?_) ?_
  refine pcw (c := _) Tryz.func92 rfl rfl ?_; intro Q hret hnorm
  refine tc tbk 2 (.mk ?_)
  refine sB 4 fun v10 => ?_
  refine tr tbk 3 (.mk ?_)
  refine jn h2 [] [1, 2, 3] (fun (a : Bool) (k : Unit) => [(6, boo a)]) (fun a k => []) ⟨fun j11 h3 => ?_, ?_⟩
  refine tc tbk 2 (.mk ?_)
  refine sY (yv_len_sl rfl Tryz.underlying22 rfl (lst_len _)) ?_
  refine tr tbk 1 (.mk ?_)
  refine nb tbk h3 fun x12 h3 => ?_
  refine tr tbk 1 (.mk ?_)
  cases x12
  replace h3 := cf h3
  refine tr tbk 7 (.mk ?_)
  exact lf h3 () leA
  replace h3 := ct h3
  refine tr tbk 2 (.mk ?_)
  obtain ⟨j13, h4, h3⟩ := bind_e h3
  refine rse (Out := fun y H' => (∃ (a : Bool) (k : Unit), a = j13 ∧ y = boo a ∧ H' = hk [(1, ⟨25, 5, true, true, v2, [[int a1.Entities, int a1.Periods, lst 1 fI a1.Weights, lst 1 (fL 1 fI) a1.Methods, lst 1 (fL 1 fI) a1.Costs]]⟩), (2, ⟨3, 1, true, true, v3, [[int (a1.Weights.length : Int)]]⟩), (3, ⟨148, 1, true, true, v4, [[.fn (.func 89) [] []]]⟩), (4, ⟨148, 1, true, true, v10, [[.fn (.func 89) [] []]]⟩)])) rfl rfl rfl (yl_call rfl rfl (.cons rfl (.cons rfl .nil)) cal96 ?_) ?_
  refine pcw (c := _) Tryz.func96 rfl rfl ?_; intro Q hret hnorm
  refine tc tbk 8 (.mk ?_)
  obtain ⟨j14, h5, h4⟩ := bind_e h4
  refine rse (Out := fun y H' => (∃ (a : Int) (k : Unit), a = j14 ∧ y = int a ∧ H' = hk [(1, ⟨25, 5, true, true, v2, [[int a1.Entities, int a1.Periods, lst 1 fI a1.Weights, lst 1 (fL 1 fI) a1.Methods, lst 1 (fL 1 fI) a1.Costs]]⟩), (2, ⟨3, 1, true, true, v3, [[int (a1.Weights.length : Int)]]⟩), (3, ⟨148, 1, true, true, v4, [[.fn (.func 89) [] []]]⟩), (4, ⟨148, 1, true, true, v10, [[.fn (.func 89) [] []]]⟩)])) rfl rfl rfl (yl_call rfl rfl (.cons rfl (.cons rfl .nil)) cal129 ?_) ?_
  refine pcw (c := _) Tryz.func129 rfl rfl ?_; intro Q hret hnorm
  refine tc tbk 8 (.mk ?_)
  refine sY (yv_len_sl rfl Tryz.underlying22 rfl (lst_len _)) ?_
  refine tr tbk 2 (.mk ?_)
  refine jnE h5 [4] [1, 2, 3, 4] (fun (a : Unit) (k : Unit) => []) (fun a k => []) ⟨fun j15 h6 h5 => ?_, ?_⟩
  refine tc tbk 1 (.mk ?_)
  refine lp (fun n (a : Int) => d_master_Check_L0 a1 n a) (0 : Int) () h6 [0, 1, 4, 7] [1, 2, 3, 4] (fun (a : Int) (k : Unit) => [(8, int a)]) (fun a k => []) (fun _ => rfl) ⟨leA, ?_⟩
  rintro n y0_1 _ hm h6
  replace h6 : d_master_Check_L0 a1 (n + 1) y0_1 = some _ := h6
  rw [d_master_Check_L0] at h6
  refine tc tbk 2 (.mk ?_)
  refine nb tbk h6 fun x16 h6 => ?_
  refine tr tbk 2 (.mk ?_)
  cases x16
  replace h6 := cf h6
  refine tc tbk 2 (.mk ?_)
  exact lfE h6 () leA
  replace h6 := ct h6
  refine tc tbk 14 (.mk ?_)
  obtain ⟨x17, e17, h6⟩ := bind_e h6
  refine sY (yv_ixT rfl Tryz.underlying22 sh3 rfl rfl e17) ?_
  refine tr tbk 1 (.mk ?_)
  obtain ⟨j18, h7, h6⟩ := bind_e h6
  refine rse (Out := fun y H' => (∃ (a : Bool) (k : Unit), a = j18 ∧ y = boo a ∧ H' = hk [(1, ⟨25, 5, true, true, v2, [[int a1.Entities, int a1.Periods, lst 1 fI a1.Weights, lst 1 (fL 1 fI) a1.Methods, lst 1 (fL 1 fI) a1.Costs]]⟩), (2, ⟨3, 1, true, true, v3, [[int (a1.Weights.length : Int)]]⟩), (3, ⟨148, 1, true, true, v4, [[.fn (.func 89) [] []]]⟩), (4, ⟨148, 1, true, true, v10, [[.fn (.func 89) [] []]]⟩)])) rfl rfl rfl (yl_call rfl rfl (.cons rfl .nil) cal126 ?_) ?_
  refine pcw (c := _) Tryz.func126 rfl rfl ?_; intro Q hret hnorm
  refine tc tbk 8 (.mk ?_)
  obtain ⟨x19, e19, h7⟩ := bind_e h7
  refine sC cal89 (d_master_Check_1_c e19) ?_
  refine nb tbk h7 fun x20 h7 => ?_
  refine tr tbk 2 (.mk ?_)
  obtain rfl := nxt_e h7
  refine w_ret (hret _ _ (hk [(1, ⟨25, 5, true, true, v2, [[int a1.Entities, int a1.Periods, lst 1 fI a1.Weights, lst 1 (fL 1 fI) a1.Methods, lst 1 (fL 1 fI) a1.Costs]]⟩), (2, ⟨3, 1, true, true, v3, [[int (a1.Weights.length : Int)]]⟩), (3, ⟨148, 1, true, true, v4, [[.fn (.func 89) [] []]]⟩), (4, ⟨148, 1, true, true, v10, [[.fn (.func 89) [] []]]⟩)]) (.tmp rfl .nil) (HK.le ⟨rfl, rfl, rfl, rfl, trivial⟩) ?_)
  exact ⟨x20, (), rfl, rfl, rfl⟩
  rintro y _ ⟨y2_1, _, rfl, hc, rfl⟩
  subst hc
  refine tr tbk 1 (.mk ?_)
  cases y2_1
  replace h6 := cf h6
  refine tc tbk 4 (.mk ?_)
  refine ni tbk h6 fun x21 h6 => ?_
  refine tr tbk 2 (.mk ?_)
  exact bk x21 () h6 leA
  replace h6 := ct h6
  refine tc tbk 6 (.mk ?_)
  obtain ⟨c22, hX, hj⟩ := esc_e h6; subst hj; replace h5 := hX.trans (sel_r h5)
  obtain rfl := nxt_e h5
  refine w_ret (hret _ _ (hk [(1, ⟨25, 5, true, true, v2, [[int a1.Entities, int a1.Periods, lst 1 fI a1.Weights, lst 1 (fL 1 fI) a1.Methods, lst 1 (fL 1 fI) a1.Costs]]⟩), (2, ⟨3, 1, true, true, v3, [[int (a1.Weights.length : Int)]]⟩), (3, ⟨148, 1, true, true, v4, [[.fn (.func 89) [] []]]⟩), (4, ⟨148, 1, true, true, v10, [[.fn (.func 89) [] []]]⟩)]) (.tmp rfl .nil) (HK.le ⟨rfl, rfl, rfl, rfl, trivial⟩) ?_)
  exact ⟨y0_1, (), rfl, rfl, rfl⟩
  rintro _ _ h5
  refine tc tbk 4 (.mk ?_)
  obtain rfl := nxt_e h5
  refine w_ret (hret _ _ (hk [(1, ⟨25, 5, true, true, v2, [[int a1.Entities, int a1.Periods, lst 1 fI a1.Weights, lst 1 (fL 1 fI) a1.Methods, lst 1 (fL 1 fI) a1.Costs]]⟩), (2, ⟨3, 1, true, true, v3, [[int (a1.Weights.length : Int)]]⟩), (3, ⟨148, 1, true, true, v4, [[.fn (.func 89) [] []]]⟩), (4, ⟨148, 1, true, true, v10, [[.fn (.func 89) [] []]]⟩)]) (.tmp rfl .nil) (HK.le ⟨rfl, rfl, rfl, rfl, trivial⟩) ?_)
  exact ⟨(-1), (), rfl, rfl, rfl⟩
  rintro y _ ⟨y4_1, _, rfl, hc, rfl⟩
  subst hc
  refine nb tbk h4 fun x23 h4 => ?_
  refine tr tbk 2 (.mk ?_)
  obtain rfl := nxt_e h4
  refine w_ret (hret _ _ (hk [(1, ⟨25, 5, true, true, v2, [[int a1.Entities, int a1.Periods, lst 1 fI a1.Weights, lst 1 (fL 1 fI) a1.Methods, lst 1 (fL 1 fI) a1.Costs]]⟩), (2, ⟨3, 1, true, true, v3, [[int (a1.Weights.length : Int)]]⟩), (3, ⟨148, 1, true, true, v4, [[.fn (.func 89) [] []]]⟩), (4, ⟨148, 1, true, true, v10, [[.fn (.func 89) [] []]]⟩)]) (.tmp rfl .nil) (HK.le ⟨rfl, rfl, rfl, rfl, trivial⟩) ?_)
  exact ⟨x23, (), rfl, rfl, rfl⟩
  rintro y _ ⟨y5_1, _, rfl, hc, rfl⟩
  subst hc
  refine nb tbk h3 fun x24 h3 => ?_
  refine tr tbk 3 (.mk ?_)
  exact lf h3 () leA
  rintro y6_1 _ h2
  obtain rfl := nxt_e h2
  refine w_ret (hret _ _ (hk [(1, ⟨25, 5, true, true, v2, [[int a1.Entities, int a1.Periods, lst 1 fI a1.Weights, lst 1 (fL 1 fI) a1.Methods, lst 1 (fL 1 fI) a1.Costs]]⟩), (2, ⟨3, 1, true, true, v3, [[int (a1.Weights.length : Int)]]⟩), (3, ⟨148, 1, true, true, v4, [[.fn (.func 89) [] []]]⟩)]) (.tmp rfl .nil) (HK.le ⟨rfl, rfl, rfl, trivial⟩) ?_)
  exact ⟨y6_1, (), rfl, rfl, rfl⟩
  rintro y _ ⟨y7_1, _, rfl, hc, rfl⟩
  subst hc
  refine tr tbk 2 (.mk ?_)
  cases y7_1
  replace h1 := cf h1
  refine tr tbk 17 (.mk ?_)
  exact lf h1 () leA
  replace h1 := ct h1
  refine tr tbk 5 (.mk ?_)
  obtain ⟨j25, h2, h1⟩ := bind_e h1
  refine rse (Out := fun y H' => (∃ (a : Bool) (k : Unit), a = j25 ∧ y = boo a ∧ H' = hk [(1, ⟨25, 5, true, true, v2, [[int a1.Entities, int a1.Periods, lst 1 fI a1.Weights, lst 1 (fL 1 fI) a1.Methods, lst 1 (fL 1 fI) a1.Costs]]⟩), (2, ⟨3, 1, true, true, v3, [[int (a1.Weights.length : Int)]]⟩), (3, ⟨148, 1, true, true, v4, [[.fn (.func 89) [] []]]⟩)])) rfl rfl rfl (yl_call rfl rfl (.cons rfl (.cons rfl (.cons rfl .nil))) cal95 ?_) ?_
  refine pcw (c := _) Tryz.func95 rfl rfl ?_; intro Q hret hnorm
  refine tc tbk 2 (.mk ?_)
  refine sB 5 fun v26 => ?_
  refine tr tbk 3 (.mk ?_)
  refine jn h2 [] [1, 2, 3] (fun (a : Bool) (k : Unit) => [(6, boo a)]) (fun a k => []) ⟨fun j27 h3 => ?_, ?_⟩
  refine tc tbk 2 (.mk ?_)
  refine sY (yv_len_sl rfl Tryz.underlying23 rfl (lst_len _)) ?_
  refine tr tbk 1 (.mk ?_)
  refine nb tbk h3 fun x28 h3 => ?_
  refine tr tbk 1 (.mk ?_)
  cases x28
  replace h3 := cf h3
  refine tr tbk 7 (.mk ?_)
  exact lf h3 () leA
  replace h3 := ct h3
  refine tr tbk 2 (.mk ?_)
  obtain ⟨j29, h4, h3⟩ := bind_e h3
  refine rse (Out := fun y H' => (∃ (a : Bool) (k : Unit), a = j29 ∧ y = boo a ∧ H' = hk [(1, ⟨25, 5, true, true, v2, [[int a1.Entities, int a1.Periods, lst 1 fI a1.Weights, lst 1 (fL 1 fI) a1.Methods, lst 1 (fL 1 fI) a1.Costs]]⟩), (2, ⟨3, 1, true, true, v3, [[int (a1.Weights.length : Int)]]⟩), (3, ⟨148, 1, true, true, v4, [[.fn (.func 89) [] []]]⟩), (5, ⟨163, 1, true, true, v26, [[.fn (.func 91) [] [.pt 2 v3 0 0]]]⟩)])) rfl rfl rfl (yl_call rfl rfl (.cons rfl (.cons rfl .nil)) cal127 ?_) ?_
  refine pcw (c := _) Tryz.func127 rfl rfl ?_; intro Q hret hnorm
  refine tc tbk 8 (.mk ?_)
  obtain ⟨j30, h5, h4⟩ := bind_e h4
  refine rse (Out := fun y H' => (∃ (a : Int) (k : Unit), a = j30 ∧ y = int a ∧ H' = hk [(1, ⟨25, 5, true, true, v2, [[int a1.Entities, int a1.Periods, lst 1 fI a1.Weights, lst 1 (fL 1 fI) a1.Methods, lst 1 (fL 1 fI) a1.Costs]]⟩), (2, ⟨3, 1, true, true, v3, [[int (a1.Weights.length : Int)]]⟩), (3, ⟨148, 1, true, true, v4, [[.fn (.func 89) [] []]]⟩), (5, ⟨163, 1, true, true, v26, [[.fn (.func 91) [] [.pt 2 v3 0 0]]]⟩)])) rfl rfl rfl (yl_call rfl rfl (.cons rfl (.cons rfl .nil)) cal162 ?_) ?_
  refine pcw (c := _) Tryz.func162 rfl rfl ?_; intro Q hret hnorm
  refine tc tbk 8 (.mk ?_)
  refine sY (yv_len_sl rfl Tryz.underlying23 rfl (lst_len _)) ?_
  refine tr tbk 2 (.mk ?_)
  refine jnE h5 [4] [1, 2, 3, 5] (fun (a : Unit) (k : Unit) => []) (fun a k => []) ⟨fun j31 h6 h5 => ?_, ?_⟩
  refine tc tbk 1 (.mk ?_)
  refine lp (fun n (a : Int) => d_master_Check_L1 a1 n a) (0 : Int) () h6 [0, 1, 4, 7] [1, 2, 3, 5] (fun (a : Int) (k : Unit) => [(8, int a)]) (fun a k => []) (fun _ => rfl) ⟨leA, ?_⟩
  rintro n y8_1 _ hm h6
  replace h6 : d_master_Check_L1 a1 (n + 1) y8_1 = some _ := h6
  rw [d_master_Check_L1] at h6
  refine tc tbk 2 (.mk ?_)
  refine nb tbk h6 fun x32 h6 => ?_
  refine tr tbk 2 (.mk ?_)
  cases x32
  replace h6 := cf h6
  refine tc tbk 2 (.mk ?_)
  exact lfE h6 () leA
  replace h6 := ct h6
  refine tc tbk 14 (.mk ?_)
  obtain ⟨x33, e33, h6⟩ := bind_e h6
  refine sY (yv_ixT rfl Tryz.underlying23 sh22 rfl rfl e33) ?_
  refine tr tbk 1 (.mk ?_)
  obtain ⟨j34, h7, h6⟩ := bind_e h6
  refine rse (Out := fun y H' => (∃ (a : Bool) (k : Unit), a = j34 ∧ y = boo a ∧ H' = hk [(1, ⟨25, 5, true, true, v2, [[int a1.Entities, int a1.Periods, lst 1 fI a1.Weights, lst 1 (fL 1 fI) a1.Methods, lst 1 (fL 1 fI) a1.Costs]]⟩), (2, ⟨3, 1, true, true, v3, [[int (a1.Weights.length : Int)]]⟩), (3, ⟨148, 1, true, true, v4, [[.fn (.func 89) [] []]]⟩), (5, ⟨163, 1, true, true, v26, [[.fn (.func 91) [] [.pt 2 v3 0 0]]]⟩)])) rfl rfl rfl (yl_call rfl rfl (.cons rfl .nil) cal128 ?_) ?_
  refine pcw (c := _) Tryz.func128 rfl rfl ?_; intro Q hret hnorm
  refine tc tbk 8 (.mk ?_)
  obtain ⟨j35, h8, h7⟩ := bind_e h7
  refine rse (Out := fun y H' => (∃ (a : Bool) (k : Unit), a = j35 ∧ y = boo a ∧ H' = hk [(1, ⟨25, 5, true, true, v2, [[int a1.Entities, int a1.Periods, lst 1 fI a1.Weights, lst 1 (fL 1 fI) a1.Methods, lst 1 (fL 1 fI) a1.Costs]]⟩), (2, ⟨3, 1, true, true, v3, [[int (a1.Weights.length : Int)]]⟩), (3, ⟨148, 1, true, true, v4, [[.fn (.func 89) [] []]]⟩), (5, ⟨163, 1, true, true, v26, [[.fn (.func 91) [] [.pt 2 v3 0 0]]]⟩)])) rfl rfl rfl (yl_call rfl rfl (.cons rfl .nil) cal91 ?_) ?_
  refine pcw (c := _) Tryz.func91 rfl rfl ?_; intro Q hret hnorm
  refine tc tbk 8 (.mk ?_)
  obtain ⟨j36, h9, h8⟩ := bind_e h8
  refine rse (Out := fun y H' => (∃ (a : Bool) (k : Unit), a = j36 ∧ y = boo a ∧ H' = hk [(1, ⟨25, 5, true, true, v2, [[int a1.Entities, int a1.Periods, lst 1 fI a1.Weights, lst 1 (fL 1 fI) a1.Methods, lst 1 (fL 1 fI) a1.Costs]]⟩), (2, ⟨3, 1, true, true, v3, [[int (a1.Weights.length : Int)]]⟩), (3, ⟨148, 1, true, true, v4, [[.fn (.func 89) [] []]]⟩), (5, ⟨163, 1, true, true, v26, [[.fn (.func 91) [] [.pt 2 v3 0 0]]]⟩)])) rfl rfl rfl (yl_call rfl rfl (.cons rfl (.cons rfl (.cons rfl .nil))) cal92 ?_) ?_
  refine pcw (c := _) Tryz.func92 rfl rfl ?_; intro Q hret hnorm
  refine tc tbk 2 (.mk ?_)
  refine sB 6 fun v37 => ?_
  refine tr tbk 3 (.mk ?_)
  refine jn h9 [] [1, 2, 3, 5] (fun (a : Bool) (k : Unit) => [(6, boo a)]) (fun a k => []) ⟨fun j38 h10 => ?_, ?_⟩
  refine tc tbk 2 (.mk ?_)
  refine sY (yv_len_sl rfl Tryz.underlying22 rfl (lst_len _)) ?_
  refine tr tbk 1 (.mk ?_)
  refine nb tbk h10 fun x39 h10 => ?_
  refine tr tbk 1 (.mk ?_)
  cases x39
  replace h10 := cf h10
  refine tr tbk 7 (.mk ?_)
  exact lf h10 () leA
  replace h10 := ct h10
  refine tr tbk 2 (.mk ?_)
  obtain ⟨j40, h11, h10⟩ := bind_e h10
  refine rse (Out := fun y H' => (∃ (a : Bool) (k : Unit), a = j40 ∧ y = boo a ∧ H' = hk [(1, ⟨25, 5, true, true, v2, [[int a1.Entities, int a1.Periods, lst 1 fI a1.Weights, lst 1 (fL 1 fI) a1.Methods, lst 1 (fL 1 fI) a1.Costs]]⟩), (2, ⟨3, 1, true, true, v3, [[int (a1.Weights.length : Int)]]⟩), (3, ⟨148, 1, true, true, v4, [[.fn (.func 89) [] []]]⟩), (5, ⟨163, 1, true, true, v26, [[.fn (.func 91) [] [.pt 2 v3 0 0]]]⟩), (6, ⟨148, 1, true, true, v37, [[.fn (.func 93) [] []]]⟩)])) rfl rfl rfl (yl_call rfl rfl (.cons rfl (.cons rfl .nil)) cal96 ?_) ?_
  refine pcw (c := _) Tryz.func96 rfl rfl ?_; intro Q hret hnorm
  refine tc tbk 8 (.mk ?_)
  obtain ⟨j41, h12, h11⟩ := bind_e h11
  refine rse (Out := fun y H' => (∃ (a : Int) (k : Unit), a = j41 ∧ y = int a ∧ H' = hk [(1, ⟨25, 5, true, true, v2, [[int a1.Entities, int a1.Periods, lst 1 fI a1.Weights, lst 1 (fL 1 fI) a1.Methods, lst 1 (fL 1 fI) a1.Costs]]⟩), (2, ⟨3, 1, true, true, v3, [[int (a1.Weights.length : Int)]]⟩), (3, ⟨148, 1, true, true, v4, [[.fn (.func 89) [] []]]⟩), (5, ⟨163, 1, true, true, v26, [[.fn (.func 91) [] [.pt 2 v3 0 0]]]⟩), (6, ⟨148, 1, true, true, v37, [[.fn (.func 93) [] []]]⟩)])) rfl rfl rfl (yl_call rfl rfl (.cons rfl (.cons rfl .nil)) cal129 ?_) ?_
  refine pcw (c := _) Tryz.func129 rfl rfl ?_; intro Q hret hnorm
  refine tc tbk 8 (.mk ?_)
  refine sY (yv_len_sl rfl Tryz.underlying22 rfl (lst_len _)) ?_
  refine tr tbk 2 (.mk ?_)
  refine jnE h12 [4] [1, 2, 3, 5, 6] (fun (a : Unit) (k : Unit) => []) (fun a k => []) ⟨fun j42 h13 h12 => ?_, ?_⟩
  refine tc tbk 1 (.mk ?_)
  refine lp (fun n (a : Int) => d_master_Check_L2 x33 n a) (0 : Int) () h13 [0, 1, 4, 7] [1, 2, 3, 5, 6] (fun (a : Int) (k : Unit) => [(8, int a)]) (fun a k => []) (fun _ => rfl) ⟨leA, ?_⟩
  rintro n y9_1 _ hm h13
  replace h13 : d_master_Check_L2 x33 (n + 1) y9_1 = some _ := h13
  rw [d_master_Check_L2] at h13
  refine tc tbk 2 (.mk ?_)
  refine nb tbk h13 fun x43 h13 => ?_
  refine tr tbk 2 (.mk ?_)
  cases x43
  replace h13 := cf h13
  refine tc tbk 2 (.mk ?_)
  exact lfE h13 () leA
  replace h13 := ct h13
  refine tc tbk 14 (.mk ?_)
  obtain ⟨x44, e44, h13⟩ := bind_e h13
  refine sY (yv_ixT rfl Tryz.underlying22 sh3 rfl rfl e44) ?_
  refine tr tbk 1 (.mk ?_)
  obtain ⟨j45, h14, h13⟩ := bind_e h13
  refine rse (Out := fun y H' => (∃ (a : Bool) (k : Unit), a = j45 ∧ y = boo a ∧ H' = hk [(1, ⟨25, 5, true, true, v2, [[int a1.Entities, int a1.Periods, lst 1 fI a1.Weights, lst 1 (fL 1 fI) a1.Methods, lst 1 (fL 1 fI) a1.Costs]]⟩), (2, ⟨3, 1, true, true, v3, [[int (a1.Weights.length : Int)]]⟩), (3, ⟨148, 1, true, true, v4, [[.fn (.func 89) [] []]]⟩), (5, ⟨163, 1, true, true, v26, [[.fn (.func 91) [] [.pt 2 v3 0 0]]]⟩), (6, ⟨148, 1, true, true, v37, [[.fn (.func 93) [] []]]⟩)])) rfl rfl rfl (yl_call rfl rfl (.cons rfl .nil) cal126 ?_) ?_
  refine pcw (c := _) Tryz.func126 rfl rfl ?_; intro Q hret hnorm
  refine tc tbk 8 (.mk ?_)
  obtain ⟨x46, e46, h14⟩ := bind_e h14
  refine sC cal93 (d_master_Check_2_1_c e46) ?_
  refine nb tbk h14 fun x47 h14 => ?_
  refine tr tbk 2 (.mk ?_)
  obtain rfl := nxt_e h14
  refine w_ret (hret _ _ (hk [(1, ⟨25, 5, true, true, v2, [[int a1.Entities, int a1.Periods, lst 1 fI a1.Weights, lst 1 (fL 1 fI) a1.Methods, lst 1 (fL 1 fI) a1.Costs]]⟩), (2, ⟨3, 1, true, true, v3, [[int (a1.Weights.length : Int)]]⟩), (3, ⟨148, 1, true, true, v4, [[.fn (.func 89) [] []]]⟩), (5, ⟨163, 1, true, true, v26, [[.fn (.func 91) [] [.pt 2 v3 0 0]]]⟩), (6, ⟨148, 1, true, true, v37, [[.fn (.func 93) [] []]]⟩)]) (.tmp rfl .nil) (HK.le ⟨rfl, rfl, rfl, rfl, rfl, trivial⟩) ?_)
  exact ⟨x47, (), rfl, rfl, rfl⟩
  rintro y _ ⟨y11_1, _, rfl, hc, rfl⟩
  subst hc
  refine tr tbk 1 (.mk ?_)
  cases y11_1
  replace h13 := cf h13
  refine tc tbk 4 (.mk ?_)
  refine ni tbk h13 fun x48 h13 => ?_
  refine tr tbk 2 (.mk ?_)
  exact bk x48 () h13 leA
  replace h13 := ct h13
  refine tc tbk 6 (.mk ?_)
  obtain ⟨c49, hX, hj⟩ := esc_e h13; subst hj; replace h12 := hX.trans (sel_r h12)
  obtain rfl := nxt_e h12
  refine w_ret (hret _ _ (hk [(1, ⟨25, 5, true, true, v2, [[int a1.Entities, int a1.Periods, lst 1 fI a1.Weights, lst 1 (fL 1 fI) a1.Methods, lst 1 (fL 1 fI) a1.Costs]]⟩), (2, ⟨3, 1, true, true, v3, [[int (a1.Weights.length : Int)]]⟩), (3, ⟨148, 1, true, true, v4, [[.fn (.func 89) [] []]]⟩), (5, ⟨163, 1, true, true, v26, [[.fn (.func 91) [] [.pt 2 v3 0 0]]]⟩), (6, ⟨148, 1, true, true, v37, [[.fn (.func 93) [] []]]⟩)]) (.tmp rfl .nil) (HK.le ⟨rfl, rfl, rfl, rfl, rfl, trivial⟩) ?_)
  exact ⟨y9_1, (), rfl, rfl, rfl⟩
  rintro _ _ h12
  refine tc tbk 4 (.mk ?_)
  obtain rfl := nxt_e h12
  refine w_ret (hret _ _ (hk [(1, ⟨25, 5, true, true, v2, [[int a1.Entities, int a1.Periods, lst 1 fI a1.Weights, lst 1 (fL 1 fI) a1.Methods, lst 1 (fL 1 fI) a1.Costs]]⟩), (2, ⟨3, 1, true, true, v3, [[int (a1.Weights.length : Int)]]⟩), (3, ⟨148, 1, true, true, v4, [[.fn (.func 89) [] []]]⟩), (5, ⟨163, 1, true, true, v26, [[.fn (.func 91) [] [.pt 2 v3 0 0]]]⟩), (6, ⟨148, 1, true, true, v37, [[.fn (.func 93) [] []]]⟩)]) (.tmp rfl .nil) (HK.le ⟨rfl, rfl, rfl, rfl, rfl, trivial⟩) ?_)
  exact ⟨(-1), (), rfl, rfl, rfl⟩
  rintro y _ ⟨y13_1, _, rfl, hc, rfl⟩
  subst hc
  refine nb tbk h11 fun x50 h11 => ?_
  refine tr tbk 2 (.mk ?_)
  obtain rfl := nxt_e h11
  refine w_ret (hret _ _ (hk [(1, ⟨25, 5, true, true, v2, [[int a1.Entities, int a1.Periods, lst 1 fI a1.Weights, lst 1 (fL 1 fI) a1.Methods, lst 1 (fL 1 fI) a1.Costs]]⟩), (2, ⟨3, 1, true, true, v3, [[int (a1.Weights.length : Int)]]⟩), (3, ⟨148, 1, true, true, v4, [[.fn (.func 89) [] []]]⟩), (5, ⟨163, 1, true, true, v26, [[.fn (.func 91) [] [.pt 2 v3 0 0]]]⟩), (6, ⟨148, 1, true, true, v37, [[.fn (.func 93) [] []]]⟩)]) (.tmp rfl .nil) (HK.le ⟨rfl, rfl, rfl, rfl, rfl, trivial⟩) ?_)
  exact ⟨x50, (), rfl, rfl, rfl⟩
  rintro y _ ⟨y14_1, _, rfl, hc, rfl⟩
  subst hc
  refine nb tbk h10 fun x51 h10 => ?_
  refine tr tbk 3 (.mk ?_)
  exact lf h10 () leA
  rintro y15_1 _ h9
  obtain rfl := nxt_e h9
  refine w_ret (hret _ _ (hk [(1, ⟨25, 5, true, true, v2, [[int a1.Entities, int a1.Periods, lst 1 fI a1.Weights, lst 1 (fL 1 fI) a1.Methods, lst 1 (fL 1 fI) a1.Costs]]⟩), (2, ⟨3, 1, true, true, v3, [[int (a1.Weights.length : Int)]]⟩), (3, ⟨148, 1, true, true, v4, [[.fn (.func 89) [] []]]⟩), (5, ⟨163, 1, true, true, v26, [[.fn (.func 91) [] [.pt 2 v3 0 0]]]⟩)]) (.tmp rfl .nil) (HK.le ⟨rfl, rfl, rfl, rfl, trivial⟩) ?_)
  exact ⟨y15_1, (), rfl, rfl, rfl⟩
  rintro y _ ⟨y16_1, _, rfl, hc, rfl⟩
  subst hc
  refine tr tbk 2 (.mk ?_)
  obtain rfl := nxt_e h8
  refine w_ret (hret _ _ (hk [(1, ⟨25, 5, true, true, v2, [[int a1.Entities, int a1.Periods, lst 1 fI a1.Weights, lst 1 (fL 1 fI) a1.Methods, lst 1 (fL 1 fI) a1.Costs]]⟩), (2, ⟨3, 1, true, true, v3, [[int (a1.Weights.length : Int)]]⟩), (3, ⟨148, 1, true, true, v4, [[.fn (.func 89) [] []]]⟩), (5, ⟨163, 1, true, true, v26, [[.fn (.func 91) [] [.pt 2 v3 0 0]]]⟩)]) (.tmp rfl .nil) (HK.le ⟨rfl, rfl, rfl, rfl, trivial⟩) ?_)
  exact ⟨y16_1, (), rfl, rfl, rfl⟩
  rintro y _ ⟨y17_1, _, rfl, hc, rfl⟩
  subst hc
  refine nb tbk h7 fun x52 h7 => ?_
  refine tr tbk 2 (.mk ?_)
  obtain rfl := nxt_e h7
  refine w_ret (hret _ _ (hk [(1, ⟨25, 5, true, true, v2, [[int a1.Entities, int a1.Periods, lst 1 fI a1.Weights, lst 1 (fL 1 fI) a1.Methods, lst 1 (fL 1 fI) a1.Costs]]⟩), (2, ⟨3, 1, true, true, v3, [[int (a1.Weights.length : Int)]]⟩), (3, ⟨148, 1, true, true, v4, [[.fn (.func 89) [] []]]⟩), (5, ⟨163, 1, true, true, v26, [[.fn (.func 91) [] [.pt 2 v3 0 0]]]⟩)]) (.tmp rfl .nil) (HK.le ⟨rfl, rfl, rfl, rfl, trivial⟩) ?_)
  exact ⟨x52, (), rfl, rfl, rfl⟩
  rintro y _ ⟨y19_1, _, rfl, hc, rfl⟩
  subst hc
  refine tr tbk 1 (.mk ?_)
  cases y19_1
  replace h6 := cf h6
  refine tc tbk 4 (.mk ?_)
  refine ni tbk h6 fun x53 h6 => ?_
  refine tr tbk 2 (.mk ?_)
  exact bk x53 () h6 leA
  replace h6 := ct h6
  refine tc tbk 6 (.mk ?_)
  obtain ⟨c54, hX, hj⟩ := esc_e h6; subst hj; replace h5 := hX.trans (sel_r h5)
  obtain rfl := nxt_e h5
  refine w_ret (hret _ _ (hk [(1, ⟨25, 5, true, true, v2, [[int a1.Entities, int a1.Periods, lst 1 fI a1.Weights, lst 1 (fL 1 fI) a1.Methods, lst 1 (fL 1 fI) a1.Costs]]⟩), (2, ⟨3, 1, true, true, v3, [[int (a1.Weights.length : Int)]]⟩), (3, ⟨148, 1, true, true, v4, [[.fn (.func 89) [] []]]⟩), (5, ⟨163, 1, true, true, v26, [[.fn (.func 91) [] [.pt 2 v3 0 0]]]⟩)]) (.tmp rfl .nil) (HK.le ⟨rfl, rfl, rfl, rfl, trivial⟩) ?_)
  exact ⟨y8_1, (), rfl, rfl, rfl⟩
  rintro _ _ h5
  refine tc tbk 4 (.mk ?_)
  obtain rfl := nxt_e h5
  refine w_ret (hret _ _ (hk [(1, ⟨25, 5, true, true, v2, [[int a1.Entities, int a1.Periods, lst 1 fI a1.Weights, lst 1 (fL 1 fI) a1.Methods, lst 1 (fL 1 fI) a1.Costs]]⟩), (2, ⟨3, 1, true, true, v3, [[int (a1.Weights.length : Int)]]⟩), (3, ⟨148, 1, true, true, v4, [[.fn (.func 89) [] []]]⟩), (5, ⟨163, 1, true, true, v26, [[.fn (.func 91) [] [.pt 2 v3 0 0]]]⟩)]) (.tmp rfl .nil) (HK.le ⟨rfl, rfl, rfl, rfl, trivial⟩) ?_)
  exact ⟨(-1), (), rfl, rfl, rfl⟩
  rintro y _ ⟨y21_1, _, rfl, hc, rfl⟩
  subst hc
  refine nb tbk h4 fun x55 h4 => ?_
  refine tr tbk 2 (.mk ?_)
  obtain rfl := nxt_e h4
  refine w_ret (hret _ _ (hk [(1, ⟨25, 5, true, true, v2, [[int a1.Entities, int a1.Periods, lst 1 fI a1.Weights, lst 1 (fL 1 fI) a1.Methods, lst 1 (fL 1 fI) a1.Costs]]⟩), (2, ⟨3, 1, true, true, v3, [[int (a1.Weights.length : Int)]]⟩), (3, ⟨148, 1, true, true, v4, [[.fn (.func 89) [] []]]⟩), (5, ⟨163, 1, true, true, v26, [[.fn (.func 91) [] [.pt 2 v3 0 0]]]⟩)]) (.tmp rfl .nil) (HK.le ⟨rfl, rfl, rfl, rfl, trivial⟩) ?_)
  exact ⟨x55, (), rfl, rfl, rfl⟩
  rintro y _ ⟨y22_1, _, rfl, hc, rfl⟩
  subst hc
  refine nb tbk h3 fun x56 h3 => ?_
  refine tr tbk 3 (.mk ?_)
  exact lf h3 () leA
  rintro y23_1 _ h2
  obtain rfl := nxt_e h2
  refine w_ret (hret _ _ (hk [(1, ⟨25, 5, true, true, v2, [[int a1.Entities, int a1.Periods, lst 1 fI a1.Weights, lst 1 (fL 1 fI) a1.Methods, lst 1 (fL 1 fI) a1.Costs]]⟩), (2, ⟨3, 1, true, true, v3, [[int (a1.Weights.length : Int)]]⟩), (3, ⟨148, 1, true, true, v4, [[.fn (.func 89) [] []]]⟩)]) (.tmp rfl .nil) (HK.le ⟨rfl, rfl, rfl, trivial⟩) ?_)
  exact ⟨y23_1, (), rfl, rfl, rfl⟩
  rintro y _ ⟨y24_1, _, rfl, hc, rfl⟩
  subst hc
  refine tr tbk 2 (.mk ?_)
  cases y24_1
  replace h1 := cf h1
  refine tr tbk 9 (.mk ?_)
  exact lf h1 () leA
  replace h1 := ct h1
  refine tr tbk 5 (.mk ?_)
  obtain ⟨j57, h2, h1⟩ := bind_e h1
  refine rse (Out := fun y H' => (∃ (a : Bool) (k : Unit), a = j57 ∧ y = boo a ∧ H' = hk [(1, ⟨25, 5, true, true, v2, [[int a1.Entities, int a1.Periods, lst 1 fI a1.Weights, lst 1 (fL 1 fI) a1.Methods, lst 1 (fL 1 fI) a1.Costs]]⟩), (2, ⟨3, 1, true, true, v3, [[int (a1.Weights.length : Int)]]⟩), (3, ⟨148, 1, true, true, v4, [[.fn (.func 89) [] []]]⟩)])) rfl rfl rfl (yl_call rfl rfl (.cons rfl (.cons rfl (.cons rfl .nil))) cal95 ?_) ?_
  refine pcw (c := _) Tryz.func95 rfl rfl ?_; intro Q hret hnorm
  refine tc tbk 2 (.mk ?_)
  refine sB 7 fun v58 => ?_
  refine tr tbk 3 (.mk ?_)
  refine jn h2 [] [1, 2, 3] (fun (a : Bool) (k : Unit) => [(6, boo a)]) (fun a k => []) ⟨fun j59 h3 => ?_, ?_⟩
  refine tc tbk 2 (.mk ?_)
  refine sY (yv_len_sl rfl Tryz.underlying23 rfl (lst_len _)) ?_
  refine tr tbk 1 (.mk ?_)
  refine nb tbk h3 fun x60 h3 => ?_
  refine tr tbk 1 (.mk ?_)
  cases x60
  replace h3 := cf h3
  refine tr tbk 7 (.mk ?_)
  exact lf h3 () leA
  replace h3 := ct h3
  refine tr tbk 2 (.mk ?_)
  obtain ⟨j61, h4, h3⟩ := bind_e h3
  refine rse (Out := fun y H' => (∃ (a : Bool) (k : Unit), a = j61 ∧ y = boo a ∧ H' = hk [(1, ⟨25, 5, true, true, v2, [[int a1.Entities, int a1.Periods, lst 1 fI a1.Weights, lst 1 (fL 1 fI) a1.Methods, lst 1 (fL 1 fI) a1.Costs]]⟩), (2, ⟨3, 1, true, true, v3, [[int (a1.Weights.length : Int)]]⟩), (3, ⟨148, 1, true, true, v4, [[.fn (.func 89) [] []]]⟩), (7, ⟨163, 1, true, true, v58, [[.fn (.func 94) [] [.pt 2 v3 0 0, .pt 3 v4 0 0]]]⟩)])) rfl rfl rfl (yl_call rfl rfl (.cons rfl (.cons rfl .nil)) cal127 ?_) ?_
  refine pcw (c := _) Tryz.func127 rfl rfl ?_; intro Q hret hnorm
  refine tc tbk 8 (.mk ?_)
  obtain ⟨j62, h5, h4⟩ := bind_e h4
  refine rse (Out := fun y H' => (∃ (a : Int) (k : Unit), a = j62 ∧ y = int a ∧ H' = hk [(1, ⟨25, 5, true, true, v2, [[int a1.Entities, int a1.Periods, lst 1 fI a1.Weights, lst 1 (fL 1 fI) a1.Methods, lst 1 (fL 1 fI) a1.Costs]]⟩), (2, ⟨3, 1, true, true, v3, [[int (a1.Weights.length : Int)]]⟩), (3, ⟨148, 1, true, true, v4, [[.fn (.func 89) [] []]]⟩), (7, ⟨163, 1, true, true, v58, [[.fn (.func 94) [] [.pt 2 v3 0 0, .pt 3 v4 0 0]]]⟩)])) rfl rfl rfl (yl_call rfl rfl (.cons rfl (.cons rfl .nil)) cal162 ?_) ?_
  refine pcw (c := _) Tryz.func162 rfl rfl ?_; intro Q hret hnorm
  refine tc tbk 8 (.mk ?_)
  refine sY (yv_len_sl rfl Tryz.underlying23 rfl (lst_len _)) ?_
  refine tr tbk 2 (.mk ?_)
  refine jnE h5 [4] [1, 2, 3, 7] (fun (a : Unit) (k : Unit) => []) (fun a k => []) ⟨fun j63 h6 h5 => ?_, ?_⟩
  refine tc tbk 1 (.mk ?_)
  refine lp (fun n (a : Int) => d_master_Check_L3 a1 n a) (0 : Int) () h6 [0, 1, 4, 7] [1, 2, 3, 7] (fun (a : Int) (k : Unit) => [(8, int a)]) (fun a k => []) (fun _ => rfl) ⟨leA, ?_⟩
  rintro n y25_1 _ hm h6
  replace h6 : d_master_Check_L3 a1 (n + 1) y25_1 = some _ := h6
  rw [d_master_Check_L3] at h6
  refine tc tbk 2 (.mk ?_)
  refine nb tbk h6 fun x64 h6 => ?_
  refine tr tbk 2 (.mk ?_)
  cases x64
  replace h6 := cf h6
  refine tc tbk 2 (.mk ?_)
  exact lfE h6 () leA
  replace h6 := ct h6
  refine tc tbk 14 (.mk ?_)
  obtain ⟨x65, e65, h6⟩ := bind_e h6
  refine sY (yv_ixT rfl Tryz.underlying23 sh22 rfl rfl e65) ?_
  refine tr tbk 1 (.mk ?_)
  obtain ⟨j66, h7, h6⟩ := bind_e h6
  refine rse (Out := fun y H' => (∃ (a : Bool) (k : Unit), a = j66 ∧ y = boo a ∧ H' = hk [(1, ⟨25, 5, true, true, v2, [[int a1.Entities, int a1.Periods, lst 1 fI a1.Weights, lst 1 (fL 1 fI) a1.Methods, lst 1 (fL 1 fI) a1.Costs]]⟩), (2, ⟨3, 1, true, true, v3, [[int (a1.Weights.length : Int)]]⟩), (3, ⟨148, 1, true, true, v4, [[.fn (.func 89) [] []]]⟩), (7, ⟨163, 1, true, true, v58, [[.fn (.func 94) [] [.pt 2 v3 0 0, .pt 3 v4 0 0]]]⟩)])) rfl rfl rfl (yl_call rfl rfl (.cons rfl .nil) cal128 ?_) ?_
  refine pcw (c := _) Tryz.func128 rfl rfl ?_; intro Q hret hnorm
  refine tc tbk 8 (.mk ?_)
  obtain ⟨j67, h8, h7⟩ := bind_e h7
  refine rse (Out := fun y H' => (∃ (a : Bool) (k : Unit), a = j67 ∧ y = boo a ∧ H' = hk [(1, ⟨25, 5, true, true, v2, [[int a1.Entities, int a1.Periods, lst 1 fI a1.Weights, lst 1 (fL 1 fI) a1.Methods, lst 1 (fL 1 fI) a1.Costs]]⟩), (2, ⟨3, 1, true, true, v3, [[int (a1.Weights.length : Int)]]⟩), (3, ⟨148, 1, true, true, v4, [[.fn (.func 89) [] []]]⟩), (7, ⟨163, 1, true, true, v58, [[.fn (.func 94) [] [.pt 2 v3 0 0, .pt 3 v4 0 0]]]⟩)])) rfl rfl rfl (yl_call rfl rfl (.cons rfl .nil) cal94 ?_) ?_
  refine pcw (c := _) Tryz.func94 rfl rfl ?_; intro Q hret hnorm
  refine tc tbk 9 (.mk ?_)
  obtain ⟨j68, h9, h8⟩ := bind_e h8
  refine rse (Out := fun y H' => (∃ (a : Bool) (k : Unit), a = j68 ∧ y = boo a ∧ H' = hk [(1, ⟨25, 5, true, true, v2, [[int a1.Entities, int a1.Periods, lst 1 fI a1.Weights, lst 1 (fL 1 fI) a1.Methods, lst 1 (fL 1 fI) a1.Costs]]⟩), (2, ⟨3, 1, true, true, v3, [[int (a1.Weights.length : Int)]]⟩), (3, ⟨148, 1, true, true, v4, [[.fn (.func 89) [] []]]⟩), (7, ⟨163, 1, true, true, v58, [[.fn (.func 94) [] [.pt 2 v3 0 0, .pt 3 v4 0 0]]]⟩)])) rfl rfl rfl (yl_call rfl rfl (.cons rfl (.cons rfl (.cons rfl .nil))) cal92 ?_) ?_
  refine pcw (c := _) Tryz.func92 rfl rfl ?_; intro Q hret hnorm
  refine tc tbk 2 (.mk ?_)
  refine sB 8 fun v69 => ?_
  refine tr tbk 3 (.mk ?_)
  refine jn h9 [] [1, 2, 3, 7] (fun (a : Bool) (k : Unit) => [(6, boo a)]) (fun a k => []) ⟨fun j70 h10 => ?_, ?_⟩
  refine tc tbk 2 (.mk ?_)
  refine sY (yv_len_sl rfl Tryz.underlying22 rfl (lst_len _)) ?_
  refine tr tbk 1 (.mk ?_)
  refine nb tbk h10 fun x71 h10 => ?_
  refine tr tbk 1 (.mk ?_)
  cases x71
  replace h10 := cf h10
  refine tr tbk 7 (.mk ?_)
  exact lf h10 () leA
  replace h10 := ct h10
  refine tr tbk 2 (.mk ?_)
  obtain ⟨j72, h11, h10⟩ := bind_e h10
  refine rse (Out := fun y H' => (∃ (a : Bool) (k : Unit), a = j72 ∧ y = boo a ∧ H' = hk [(1, ⟨25, 5, true, true, v2, [[int a1.Entities, int a1.Periods, lst 1 fI a1.Weights, lst 1 (fL 1 fI) a1.Methods, lst 1 (fL 1 fI) a1.Costs]]⟩), (2, ⟨3, 1, true, true, v3, [[int (a1.Weights.length : Int)]]⟩), (3, ⟨148, 1, true, true, v4, [[.fn (.func 89) [] []]]⟩), (7, ⟨163, 1, true, true, v58, [[.fn (.func 94) [] [.pt 2 v3 0 0, .pt 3 v4 0 0]]]⟩), (8, ⟨148, 1, true, true, v69, [[.fn (.func 89) [] []]]⟩)])) rfl rfl rfl (yl_call rfl rfl (.cons rfl (.cons rfl .nil)) cal96 ?_) ?_
  refine pcw (c := _) Tryz.func96 rfl rfl ?_; intro Q hret hnorm
  refine tc tbk 8 (.mk ?_)
  obtain ⟨j73, h12, h11⟩ := bind_e h11
  refine rse (Out := fun y H' => (∃ (a : Int) (k : Unit), a = j73 ∧ y = int a ∧ H' = hk [(1, ⟨25, 5, true, true, v2, [[int a1.Entities, int a1.Periods, lst 1 fI a1.Weights, lst 1 (fL 1 fI) a1.Methods, lst 1 (fL 1 fI) a1.Costs]]⟩), (2, ⟨3, 1, true, true, v3, [[int (a1.Weights.length : Int)]]⟩), (3, ⟨148, 1, true, true, v4, [[.fn (.func 89) [] []]]⟩), (7, ⟨163, 1, true, true, v58, [[.fn (.func 94) [] [.pt 2 v3 0 0, .pt 3 v4 0 0]]]⟩), (8, ⟨148, 1, true, true, v69, [[.fn (.func 89) [] []]]⟩)])) rfl rfl rfl (yl_call rfl rfl (.cons rfl (.cons rfl .nil)) cal129 ?_) ?_
  refine pcw (c := _) Tryz.func129 rfl rfl ?_; intro Q hret hnorm
  refine tc tbk 8 (.mk ?_)
  refine sY (yv_len_sl rfl Tryz.underlying22 rfl (lst_len _)) ?_
  refine tr tbk 2 (.mk ?_)
  refine jnE h12 [4] [1, 2, 3, 7, 8] (fun (a : Unit) (k : Unit) => []) (fun a k => []) ⟨fun j74 h13 h12 => ?_, ?_⟩
  refine tc tbk 1 (.mk ?_)
  refine lp (fun n (a : Int) => d_master_Check_L4 x65 n a) (0 : Int) () h13 [0, 1, 4, 7] [1, 2, 3, 7, 8] (fun (a : Int) (k : Unit) => [(8, int a)]) (fun a k => []) (fun _ => rfl) ⟨leA, ?_⟩
  rintro n y26_1 _ hm h13
  replace h13 : d_master_Check_L4 x65 (n + 1) y26_1 = some _ := h13
  rw [d_master_Check_L4] at h13
  refine tc tbk 2 (.mk ?_)
  refine nb tbk h13 fun x75 h13 => ?_
  refine tr tbk 2 (.mk ?_)
  cases x75
  replace h13 := cf h13
  refine tc tbk 2 (.mk ?_)
  exact lfE h13 () leA
  replace h13 := ct h13
  refine tc tbk 14 (.mk ?_)
  obtain ⟨x76, e76, h13⟩ := bind_e h13
  refine sY (yv_ixT rfl Tryz.underlying22 sh3 rfl rfl e76) ?_
  refine tr tbk 1 (.mk ?_)
  obtain ⟨j77, h14, h13⟩ := bind_e h13
  refine rse (Out := fun y H' => (∃ (a : Bool) (k : Unit), a = j77 ∧ y = boo a ∧ H' = hk [(1, ⟨25, 5, true, true, v2, [[int a1.Entities, int a1.Periods, lst 1 fI a1.Weights, lst 1 (fL 1 fI) a1.Methods, lst 1 (fL 1 fI) a1.Costs]]⟩), (2, ⟨3, 1, true, true, v3, [[int (a1.Weights.length : Int)]]⟩), (3, ⟨148, 1, true, true, v4, [[.fn (.func 89) [] []]]⟩), (7, ⟨163, 1, true, true, v58, [[.fn (.func 94) [] [.pt 2 v3 0 0, .pt 3 v4 0 0]]]⟩), (8, ⟨148, 1, true, true, v69, [[.fn (.func 89) [] []]]⟩)])) rfl rfl rfl (yl_call rfl rfl (.cons rfl .nil) cal126 ?_) ?_
  refine pcw (c := _) Tryz.func126 rfl rfl ?_; intro Q hret hnorm
  refine tc tbk 8 (.mk ?_)
  obtain ⟨x78, e78, h14⟩ := bind_e h14
  refine sC cal89 (d_master_Check_1_c e78) ?_
  refine nb tbk h14 fun x79 h14 => ?_
  refine tr tbk 2 (.mk ?_)
  obtain rfl := nxt_e h14
  refine w_ret (hret _ _ (hk [(1, ⟨25, 5, true, true, v2, [[int a1.Entities, int a1.Periods, lst 1 fI a1.Weights, lst 1 (fL 1 fI) a1.Methods, lst 1 (fL 1 fI) a1.Costs]]⟩), (2, ⟨3, 1, true, true, v3, [[int (a1.Weights.length : Int)]]⟩), (3, ⟨148, 1, true, true, v4, [[.fn (.func 89) [] []]]⟩), (7, ⟨163, 1, true, true, v58, [[.fn (.func 94) [] [.pt 2 v3 0 0, .pt 3 v4 0 0]]]⟩), (8, ⟨148, 1, true, true, v69, [[.fn (.func 89) [] []]]⟩)]) (.tmp rfl .nil) (HK.le ⟨rfl, rfl, rfl, rfl, rfl, trivial⟩) ?_)
  exact ⟨x79, (), rfl, rfl, rfl⟩
  rintro y _ ⟨y28_1, _, rfl, hc, rfl⟩
  subst hc
  refine tr tbk 1 (.mk ?_)
  cases y28_1
  replace h13 := cf h13
  refine tc tbk 4 (.mk ?_)
  refine ni tbk h13 fun x80 h13 => ?_
  refine tr tbk 2 (.mk ?_)
  exact bk x80 () h13 leA
  replace h13 := ct h13
  refine tc tbk 6 (.mk ?_)
  obtain ⟨c81, hX, hj⟩ := esc_e h13; subst hj; replace h12 := hX.trans (sel_r h12)
  obtain rfl := nxt_e h12
  refine w_ret (hret _ _ (hk [(1, ⟨25, 5, true, true, v2, [[int a1.Entities, int a1.Periods, lst 1 fI a1.Weights, lst 1 (fL 1 fI) a1.Methods, lst 1 (fL 1 fI) a1.Costs]]⟩), (2, ⟨3, 1, true, true, v3, [[int (a1.Weights.length : Int)]]⟩), (3, ⟨148, 1, true, true, v4, [[.fn (.func 89) [] []]]⟩), (7, ⟨163, 1, true, true, v58, [[.fn (.func 94) [] [.pt 2 v3 0 0, .pt 3 v4 0 0]]]⟩), (8, ⟨148, 1, true, true, v69, [[.fn (.func 89) [] []]]⟩)]) (.tmp rfl .nil) (HK.le ⟨rfl, rfl, rfl, rfl, rfl, trivial⟩) ?_)
  exact ⟨y26_1, (), rfl, rfl, rfl⟩
  rintro _ _ h12
  refine tc tbk 4 (.mk ?_)
  obtain rfl := nxt_e h12
  refine w_ret (hret _ _ (hk [(1, ⟨25, 5, true, true, v2, [[int a1.Entities, int a1.Periods, lst 1 fI a1.Weights, lst 1 (fL 1 fI) a1.Methods, lst 1 (fL 1 fI) a1.Costs]]⟩), (2, ⟨3, 1, true, true, v3, [[int (a1.Weights.length : Int)]]⟩), (3, ⟨148, 1, true, true, v4, [[.fn (.func 89) [] []]]⟩), (7, ⟨163, 1, true, true, v58, [[.fn (.func 94) [] [.pt 2 v3 0 0, .pt 3 v4 0 0]]]⟩), (8, ⟨148, 1, true, true, v69, [[.fn (.func 89) [] []]]⟩)]) (.tmp rfl .nil) (HK.le ⟨rfl, rfl, rfl, rfl, rfl, trivial⟩) ?_)
  exact ⟨(-1), (), rfl, rfl, rfl⟩
  rintro y _ ⟨y30_1, _, rfl, hc, rfl⟩
  subst hc
  refine nb tbk h11 fun x82 h11 => ?_
  refine tr tbk 2 (.mk ?_)
  obtain rfl := nxt_e h11
  refine w_ret (hret _ _ (hk [(1, ⟨25, 5, true, true, v2, [[int a1.Entities, int a1.Periods, lst 1 fI a1.Weights, lst 1 (fL 1 fI) a1.Methods, lst 1 (fL 1 fI) a1.Costs]]⟩), (2, ⟨3, 1, true, true, v3, [[int (a1.Weights.length : Int)]]⟩), (3, ⟨148, 1, true, true, v4, [[.fn (.func 89) [] []]]⟩), (7, ⟨163, 1, true, true, v58, [[.fn (.func 94) [] [.pt 2 v3 0 0, .pt 3 v4 0 0]]]⟩), (8, ⟨148, 1, true, true, v69, [[.fn (.func 89) [] []]]⟩)]) (.tmp rfl .nil) (HK.le ⟨rfl, rfl, rfl, rfl, rfl, trivial⟩) ?_)
  exact ⟨x82, (), rfl, rfl, rfl⟩
  rintro y _ ⟨y31_1, _, rfl, hc, rfl⟩
  subst hc
  refine nb tbk h10 fun x83 h10 => ?_
  refine tr tbk 3 (.mk ?_)
  exact lf h10 () leA
  rintro y32_1 _ h9
  obtain rfl := nxt_e h9
  refine w_ret (hret _ _ (hk [(1, ⟨25, 5, true, true, v2, [[int a1.Entities, int a1.Periods, lst 1 fI a1.Weights, lst 1 (fL 1 fI) a1.Methods, lst 1 (fL 1 fI) a1.Costs]]⟩), (2, ⟨3, 1, true, true, v3, [[int (a1.Weights.length : Int)]]⟩), (3, ⟨148, 1, true, true, v4, [[.fn (.func 89) [] []]]⟩), (7, ⟨163, 1, true, true, v58, [[.fn (.func 94) [] [.pt 2 v3 0 0, .pt 3 v4 0 0]]]⟩)]) (.tmp rfl .nil) (HK.le ⟨rfl, rfl, rfl, rfl, trivial⟩) ?_)
  exact ⟨y32_1, (), rfl, rfl, rfl⟩
  rintro y _ ⟨y33_1, _, rfl, hc, rfl⟩
  subst hc
  refine tr tbk 2 (.mk ?_)
  obtain rfl := nxt_e h8
  refine w_ret (hret _ _ (hk [(1, ⟨25, 5, true, true, v2, [[int a1.Entities, int a1.Periods, lst 1 fI a1.Weights, lst 1 (fL 1 fI) a1.Methods, lst 1 (fL 1 fI) a1.Costs]]⟩), (2, ⟨3, 1, true, true, v3, [[int (a1.Weights.length : Int)]]⟩), (3, ⟨148, 1, true, true, v4, [[.fn (.func 89) [] []]]⟩), (7, ⟨163, 1, true, true, v58, [[.fn (.func 94) [] [.pt 2 v3 0 0, .pt 3 v4 0 0]]]⟩)]) (.tmp rfl .nil) (HK.le ⟨rfl, rfl, rfl, rfl, trivial⟩) ?_)
  exact ⟨y33_1, (), rfl, rfl, rfl⟩
  rintro y _ ⟨y34_1, _, rfl, hc, rfl⟩
  subst hc
  refine nb tbk h7 fun x84 h7 => ?_
  refine tr tbk 2 (.mk ?_)
  obtain rfl := nxt_e h7
  refine w_ret (hret _ _ (hk [(1, ⟨25, 5, true, true, v2, [[int a1.Entities, int a1.Periods, lst 1 fI a1.Weights, lst 1 (fL 1 fI) a1.Methods, lst 1 (fL 1 fI) a1.Costs]]⟩), (2, ⟨3, 1, true, true, v3, [[int (a1.Weights.length : Int)]]⟩), (3, ⟨148, 1, true, true, v4, [[.fn (.func 89) [] []]]⟩), (7, ⟨163, 1, true, true, v58, [[.fn (.func 94) [] [.pt 2 v3 0 0, .pt 3 v4 0 0]]]⟩)]) (.tmp rfl .nil) (HK.le ⟨rfl, rfl, rfl, rfl, trivial⟩) ?_)
  exact ⟨x84, (), rfl, rfl, rfl⟩
  rintro y _ ⟨y36_1, _, rfl, hc, rfl⟩
  subst hc
  refine tr tbk 1 (.mk ?_)
  cases y36_1
  replace h6 := cf h6
  refine tc tbk 4 (.mk ?_)
  refine ni tbk h6 fun x85 h6 => ?_
  refine tr tbk 2 (.mk ?_)
  exact bk x85 () h6 leA
  replace h6 := ct h6
  refine tc tbk 6 (.mk ?_)
  obtain ⟨c86, hX, hj⟩ := esc_e h6; subst hj; replace h5 := hX.trans (sel_r h5)
  obtain rfl := nxt_e h5
  refine w_ret (hret _ _ (hk [(1, ⟨25, 5, true, true, v2, [[int a1.Entities, int a1.Periods, lst 1 fI a1.Weights, lst 1 (fL 1 fI) a1.Methods, lst 1 (fL 1 fI) a1.Costs]]⟩), (2, ⟨3, 1, true, true, v3, [[int (a1.Weights.length : Int)]]⟩), (3, ⟨148, 1, true, true, v4, [[.fn (.func 89) [] []]]⟩), (7, ⟨163, 1, true, true, v58, [[.fn (.func 94) [] [.pt 2 v3 0 0, .pt 3 v4 0 0]]]⟩)]) (.tmp rfl .nil) (HK.le ⟨rfl, rfl, rfl, rfl, trivial⟩) ?_)
  exact ⟨y25_1, (), rfl, rfl, rfl⟩
  rintro _ _ h5
  refine tc tbk 4 (.mk ?_)
  obtain rfl := nxt_e h5
  refine w_ret (hret _ _ (hk [(1, ⟨25, 5, true, true, v2, [[int a1.Entities, int a1.Periods, lst 1 fI a1.Weights, lst 1 (fL 1 fI) a1.Methods, lst 1 (fL 1 fI) a1.Costs]]⟩), (2, ⟨3, 1, true, true, v3, [[int (a1.Weights.length : Int)]]⟩), (3, ⟨148, 1, true, true, v4, [[.fn (.func 89) [] []]]⟩), (7, ⟨163, 1, true, true, v58, [[.fn (.func 94) [] [.pt 2 v3 0 0, .pt 3 v4 0 0]]]⟩)]) (.tmp rfl .nil) (HK.le ⟨rfl, rfl, rfl, rfl, trivial⟩) ?_)
  exact ⟨(-1), (), rfl, rfl, rfl⟩
  rintro y _ ⟨y38_1, _, rfl, hc, rfl⟩
  subst hc
  refine nb tbk h4 fun x87 h4 => ?_
  refine tr tbk 2 (.mk ?_)
  obtain rfl := nxt_e h4
  refine w_ret (hret _ _ (hk [(1, ⟨25, 5, true, true, v2, [[int a1.Entities, int a1.Periods, lst 1 fI a1.Weights, lst 1 (fL 1 fI) a1.Methods, lst 1 (fL 1 fI) a1.Costs]]⟩), (2, ⟨3, 1, true, true, v3, [[int (a1.Weights.length : Int)]]⟩), (3, ⟨148, 1, true, true, v4, [[.fn (.func 89) [] []]]⟩), (7, ⟨163, 1, true, true, v58, [[.fn (.func 94) [] [.pt 2 v3 0 0, .pt 3 v4 0 0]]]⟩)]) (.tmp rfl .nil) (HK.le ⟨rfl, rfl, rfl, rfl, trivial⟩) ?_)
  exact ⟨x87, (), rfl, rfl, rfl⟩
  rintro y _ ⟨y39_1, _, rfl, hc, rfl⟩
  subst hc
  refine nb tbk h3 fun x88 h3 => ?_
  refine tr tbk 3 (.mk ?_)
  exact lf h3 () leA
  rintro y40_1 _ h2
  obtain rfl := nxt_e h2
  refine w_ret (hret _ _ (hk [(1, ⟨25, 5, true, true, v2, [[int a1.Entities, int a1.Periods, lst 1 fI a1.Weights, lst 1 (fL 1 fI) a1.Methods, lst 1 (fL 1 fI) a1.Costs]]⟩), (2, ⟨3, 1, true, true, v3, [[int (a1.Weights.length : Int)]]⟩), (3, ⟨148, 1, true, true, v4, [[.fn (.func 89) [] []]]⟩)]) (.tmp rfl .nil) (HK.le ⟨rfl, rfl, rfl, trivial⟩) ?_)
  exact ⟨y40_1, (), rfl, rfl, rfl⟩
  rintro y _ ⟨y41_1, _, rfl, hc, rfl⟩
  subst hc
  refine tr tbk 3 (.mk ?_)
  exact lf h1 () leA
  rintro y42_1 _ h0
  obtain rfl := nxt_e h0
  refine wR hret (rT .nil) ?_
  exact .refl _
def d_stock_sums_L0 (a1 : Int) (a2 : List Int) : Nat → Int → Option ((Unit) ⊕ ((Int)))
  | 0, _ => none
  | n + 1, y0_1 =>
    bnd (decide (y0_1 < (a2.length : Int))) fun x7 =>
    cond x7 ((ix a2 y0_1).bind fun x8 =>
    (show Option ((Bool)) from
    (d_stock_in x8 a1 288230376151711744).bind fun x10 =>
    bnd (!x10) fun x11 =>
    some (x11 : Bool)).bind <| fun y2_1 =>
    cond y2_1 (esc (some (y0_1 : Int))) (bnd (w64 (y0_1 + 1)) fun x12 =>
    d_stock_sums_L0 a1 a2 n (x12 : Int))) (brk ())
def d_stock_sums (n : Nat) (a1 : Int) (a2 : List Int) : Option (Bool) :=
(show Option ((Bool)) from
(show Option ((Int)) from
(show Option ((Unit) ⊕ ((Int))) from
d_stock_sums_L0 a1 a2 n (0 : Int)).bind <| sel <| fun _ =>
some ((-1) : Int)).bind <| fun y4_1 =>
bnd (decide (y4_1 ≥ 0)) fun x14 =>
some (x14 : Bool)).bind <| fun y5_1 =>
bnd (!y5_1) fun x15 =>
some ((x15 : Bool))
theorem d_stock_sums_c {n : Nat} {a1 : Int} {a2 : List Int} {r : Bool} (h0 : d_stock_sums n a1 a2 = some r) : PP Tryz.prog 58 [int a1, lst 1 fI a2] (fun y => y = boo r) := by
  unfold d_stock_sums at h0
  refine pp_of_pc (R0 := fun y H => Cv (frzH H) y (boo r)) ?_ (fun y H hc => ⟨_, rfl, pvB r, hc⟩)
  refine pcw (c := _) Tryz.func58 rfl rfl ?_; intro Q hret hnorm
  refine tc tbk 2 (.mk ?_)
  refine sB 1 fun v3 => ?_
  refine tr tbk 6 (.mk ?_)
  obtain ⟨j4, h1, h0⟩ := bind_e h0
  refine rse (Out := fun y H' => (∃ (a : Bool) (k : Unit), a = j4 ∧ y = boo a ∧ H' = hk [(1, ⟨3, 1, true, true, v3, [[int a1]]⟩)])) rfl rfl rfl (yl_call rfl rfl (.cons rfl (.cons rfl .nil)) cal96 ?_) ?_
  refine pcw (c := _) Tryz.func96 rfl rfl ?_; intro Q hret hnorm
  refine tc tbk 8 (.mk ?_)
  obtain ⟨j5, h2, h1⟩ := bind_e h1
  refine rse (Out := fun y H' => (∃ (a : Int) (k : Unit), a = j5 ∧ y = int a ∧ H' = hk [(1, ⟨3, 1, true, true, v3, [[int a1]]⟩)])) rfl rfl rfl (yl_call rfl rfl (.cons rfl (.cons rfl .nil)) cal129 ?_) ?_
  refine pcw (c := _) Tryz.func129 rfl rfl ?_; intro Q hret hnorm
  refine tc tbk 8 (.mk ?_)
  refine sY (yv_len_sl rfl Tryz.underlying22 rfl (lst_len _)) ?_
  refine tr tbk 2 (.mk ?_)
  refine jnE h2 [4] [1] (fun (a : Unit) (k : Unit) => []) (fun a k => []) ⟨fun j6 h3 h2 => ?_, ?_⟩
  refine tc tbk 1 (.mk ?_)
  refine lp (fun n (a : Int) => d_stock_sums_L0 a1 a2 n a) (0 : Int) () h3 [0, 1, 4, 7] [1] (fun (a : Int) (k : Unit) => [(8, int a)]) (fun a k => []) (fun _ => rfl) ⟨leA, ?_⟩
  rintro n y0_1 _ hm h3
  replace h3 : d_stock_sums_L0 a1 a2 (n + 1) y0_1 = some _ := h3
  rw [d_stock_sums_L0] at h3
  refine tc tbk 2 (.mk ?_)
  refine nb tbk h3 fun x7 h3 => ?_
  refine tr tbk 2 (.mk ?_)
  cases x7
  replace h3 := cf h3
  refine tc tbk 2 (.mk ?_)
  exact lfE h3 () leA
  replace h3 := ct h3
  refine tc tbk 14 (.mk ?_)
  obtain ⟨x8, e8, h3⟩ := bind_e h3
  refine sY (yv_ixT rfl Tryz.underlying22 sh3 rfl rfl e8) ?_
  refine tr tbk 1 (.mk ?_)
  obtain ⟨j9, h4, h3⟩ := bind_e h3
  refine rse (Out := fun y H' => (∃ (a : Bool) (k : Unit), a = j9 ∧ y = boo a ∧ H' = hk [(1, ⟨3, 1, true, true, v3, [[int a1]]⟩)])) rfl rfl rfl (yl_call rfl rfl (.cons rfl .nil) cal97 ?_) ?_
  refine pcw (c := _) Tryz.func97 rfl rfl ?_; intro Q hret hnorm
  refine tc tbk 8 (.mk ?_)
  obtain ⟨x10, e10, h4⟩ := bind_e h4
  refine sC cal41 (d_stock_in_c e10) ?_
  refine nb tbk h4 fun x11 h4 => ?_
  refine tr tbk 2 (.mk ?_)
  obtain rfl := nxt_e h4
  refine w_ret (hret _ _ (hk [(1, ⟨3, 1, true, true, v3, [[int a1]]⟩)]) (.tmp rfl .nil) (HK.le ⟨rfl, trivial⟩) ?_)
  exact ⟨x11, (), rfl, rfl, rfl⟩
  rintro y _ ⟨y2_1, _, rfl, hc, rfl⟩
  subst hc
  refine tr tbk 1 (.mk ?_)
  cases y2_1
  replace h3 := cf h3
  refine tc tbk 4 (.mk ?_)
  refine ni tbk h3 fun x12 h3 => ?_
  refine tr tbk 2 (.mk ?_)
  exact bk x12 () h3 leA
  replace h3 := ct h3
  refine tc tbk 6 (.mk ?_)
  obtain ⟨c13, hX, hj⟩ := esc_e h3; subst hj; replace h2 := hX.trans (sel_r h2)
  obtain rfl := nxt_e h2
  refine w_ret (hret _ _ (hk [(1, ⟨3, 1, true, true, v3, [[int a1]]⟩)]) (.tmp rfl .nil) (HK.le ⟨rfl, trivial⟩) ?_)
  exact ⟨y0_1, (), rfl, rfl, rfl⟩
  rintro _ _ h2
  refine tc tbk 4 (.mk ?_)
  obtain rfl := nxt_e h2
  refine w_ret (hret _ _ (hk [(1, ⟨3, 1, true, true, v3, [[int a1]]⟩)]) (.tmp rfl .nil) (HK.le ⟨rfl, trivial⟩) ?_)
  exact ⟨(-1), (), rfl, rfl, rfl⟩
  rintro y _ ⟨y4_1, _, rfl, hc, rfl⟩
  subst hc
  refine nb tbk h1 fun x14 h1 => ?_
  refine tr tbk 2 (.mk ?_)
  obtain rfl := nxt_e h1
  refine w_ret (hret _ _ (hk [(1, ⟨3, 1, true, true, v3, [[int a1]]⟩)]) (.tmp rfl .nil) (HK.le ⟨rfl, trivial⟩) ?_)
  exact ⟨x14, (), rfl, rfl, rfl⟩
  rintro y _ ⟨y5_1, _, rfl, hc, rfl⟩
  subst hc
  refine nb tbk h0 fun x15 h0 => ?_
  refine tr tbk 2 (.mk ?_)
  obtain rfl := nxt_e h0
  refine wR hret (rT .nil) ?_
  exact .refl _
def d_pool_Total (n : Nat) (a1 : GPool) : Option (GLayer) :=
(d_fifo_Total n a1.Layers).bind fun x4 =>
some ((x4.1 : GLayer))
theorem d_pool_Total_c {n : Nat} {a1 : GPool} {r : GLayer} (h0 : d_pool_Total n a1 = some r) : PP Tryz.prog 131 [.agg (GPool.av a1)] (fun y => y = .agg (GLayer.av r)) := by
  unfold d_pool_Total at h0
  refine pp_of_pc (R0 := fun y H => Cv (frzH H) y (.agg (GLayer.av r))) ?_ (fun y H hc => ⟨_, rfl, (fun (a : GLayer) => PV.agg (GLayer.pvc a)) r, hc⟩)
  refine pcw (c := _) Tryz.func131 rfl rfl ?_; intro Q hret hnorm
  refine tc tbk 2 (.mk ?_)
  refine sB 1 fun v2 => ?_
  refine sA 2 z38 fun v3 => ?_
  refine tr tbk 5 (.mk ?_)
  obtain ⟨x4, e4, h0⟩ := bind_e h0
  refine sC cal46 (d_fifo_Total_c e4) ?_
  refine tr tbk 3 (.mk ?_)
  refine sA 3 z38 fun v5 => ?_
  refine sS ⟨38, 3, true, true, v5, [[int x4.1.Qty, int x4.1.Value, int x4.1.Profit]]⟩ sh38 ?_
  refine tr tbk 5 (.mk ?_)
  refine sS ⟨38, 3, true, true, v3, [[int x4.1.Qty, int x4.1.Value, int x4.1.Profit]]⟩ sh38 ?_
  refine tr tbk 1 (.mk ?_)
  obtain rfl := nxt_e h0
  refine wR hret (rC sh38 .nil) ?_
  exact .refl _
def d_pool_Right_L0 (a1 : Int) (a2 : GPool) : Nat → Int → Int → Option (Unit)
  | 0, _, _ => none
  | n + 1, y6_1, y6_2 =>
    bnd (decide (y6_2 < 3)) fun x16 =>
    cond x16 ((ix ([a2.Pend.a0, a2.Pend.a1, a2.Pend.a2] : List Int) y6_2).bind fun x17 =>
    (show Option (Bool) from
    bnd (decide (x17 < 0)) fun x19 =>
    cond x19 (some (true : Bool)) (bnd (decide (x17 > y6_1)) fun x20 =>
    cond x20 (some (true : Bool)) (bnd (decide (x17 > 0)) fun x21 =>
    cond x21 ((show Option ((Unit)) from
    some ()).bind <| fun _ =>
    some (true : Bool)) (some (false : Bool))))).bind <| fun y8_1 =>
    asrt (y8_1 = false) <|
    bnd (w64 (y6_1 - x17)) fun x24 =>
    bnd (w64 (y6_2 + 1)) fun x25 =>
    d_pool_Right_L0 a1 a2 n (x24 : Int) (x25 : Int)) (some ())
def d_pool_Right_L1 (a1 : Int) (a2 : GPool) : Nat → Int → Int → Option (Unit)
  | 0, _, _ => none
  | n + 1, y6_1, y6_2 =>
    bnd (decide (y6_2 < 3)) fun x33 =>
    cond x33 ((ix ([a2.Pend.a0, a2.Pend.a1, a2.Pend.a2] : List Int) y6_2).bind fun x34 =>
    (show Option (Bool) from
    bnd (decide (x34 < 0)) fun x36 =>
    cond x36 (some (true : Bool)) (bnd (decide (x34 > y6_1)) fun x37 =>
    cond x37 (some (true : Bool)) (bnd (decide (x34 > 0)) fun x38 =>
    cond x38 ((show Option ((Unit)) from
    some ()).bind <| fun _ =>
    some (false : Bool)) (some (false : Bool))))).bind <| fun y8_1 =>
    asrt (y8_1 = false) <|
    bnd (w64 (y6_1 - x34)) fun x41 =>
    bnd (w64 (y6_2 + 1)) fun x42 =>
    d_pool_Right_L1 a1 a2 n (x41 : Int) (x42 : Int)) (some ())
def d_pool_Right_L2 (a1 : Int) (a2 : GPool) : Nat → Int → Int → Option (Unit)
  | 0, _, _ => none
  | n + 1, y6_1, y6_2 =>
    bnd (decide (y6_2 < 3)) fun x50 =>
    cond x50 ((ix ([a2.Pend.a0, a2.Pend.a1, a2.Pend.a2] : List Int) y6_2).bind fun x51 =>
    (show Option (Bool) from
    bnd (decide (x51 < 0)) fun x53 =>
    cond x53 (some (true : Bool)) (bnd (decide (x51 > y6_1)) fun x54 =>
    cond x54 (some (true : Bool)) (bnd (decide (x51 > 0)) fun x55 =>
    cond x55 ((show Option ((Unit)) from
    some ()).bind <| fun _ =>
    some (true : Bool)) (some (false : Bool))))).bind <| fun y8_1 =>
    asrt (y8_1 = false) <|
    bnd (w64 (y6_1 - x51)) fun x58 =>
    bnd (w64 (y6_2 + 1)) fun x59 =>
    d_pool_Right_L2 a1 a2 n (x58 : Int) (x59 : Int)) (some ())
def d_pool_Right_L3 (a1 : Int) (a2 : GPool) : Nat → Int → Int → Option (Unit)
  | 0, _, _ => none
  | n + 1, y6_1, y6_2 =>
    bnd (decide (y6_2 < 3)) fun x67 =>
    cond x67 ((ix ([a2.Pend.a0, a2.Pend.a1, a2.Pend.a2] : List Int) y6_2).bind fun x68 =>
    (show Option (Bool) from
    bnd (decide (x68 < 0)) fun x70 =>
    cond x70 (some (true : Bool)) (bnd (decide (x68 > y6_1)) fun x71 =>
    cond x71 (some (true : Bool)) (bnd (decide (x68 > 0)) fun x72 =>
    cond x72 ((show Option ((Unit)) from
    some ()).bind <| fun _ =>
    some (true : Bool)) (some (false : Bool))))).bind <| fun y8_1 =>
    asrt (y8_1 = false) <|
    bnd (w64 (y6_1 - x68)) fun x75 =>
    bnd (w64 (y6_2 + 1)) fun x76 =>
    d_pool_Right_L3 a1 a2 n (x75 : Int) (x76 : Int)) (some ())
def d_pool_Right (n : Nat) (a1 : Int) (a2 : GPool) : Option (Bool) :=
(show Option ((Unit) ⊕ (Unit) ⊕ (Unit) ⊕ (Unit) ⊕ (Unit)) from
bnd (decide (a1 = 1)) fun x5 =>
cond x5 (some (.inr (.inr (.inr (.inr ()))))) (bnd (decide (a1 = 2)) fun x6 =>
cond x6 (some (.inr (.inr (.inr (.inl ()))))) (bnd (decide (a1 = 3)) fun x7 =>
cond x7 (some (.inr (.inr (.inl ())))) (bnd (decide (a1 = 4)) fun x8 =>
cond x8 (some (.inr (.inl ()))) (some (.inl ())))))).bind <| selr (fun _ =>
some ((false : Bool))) <| selr (fun _ =>
(show Option (Bool) from
(d_fifo_Right n a2.Layers).bind fun x10 =>
bnd (!x10) fun x11 =>
cond x11 (some (true : Bool)) (bnd (decide (a1 ≠ 1)) fun x12 =>
cond x12 (bnd (decide ((a2.Layers.length : Int) > 1)) fun x13 =>
some (x13 : Bool)) (some (false : Bool)))).bind <| fun y5_1 =>
asrt (y5_1 = false) <|
(d_pool_Total n a2).bind fun x14 =>
(show Option (Unit) from
d_pool_Right_L0 a1 a2 n (x14.Qty : Int) (0 : Int)).bind <| fun _ =>
some ((true : Bool))) <| selr (fun _ =>
(show Option (Bool) from
(d_fifo_Right n a2.Layers).bind fun x27 =>
bnd (!x27) fun x28 =>
cond x28 (some (true : Bool)) (bnd (decide (a1 ≠ 1)) fun x29 =>
cond x29 (bnd (decide ((a2.Layers.length : Int) > 1)) fun x30 =>
some (x30 : Bool)) (some (false : Bool)))).bind <| fun y5_1 =>
asrt (y5_1 = false) <|
(d_pool_Total n a2).bind fun x31 =>
(show Option (Unit) from
d_pool_Right_L1 a1 a2 n (x31.Qty : Int) (0 : Int)).bind <| fun _ =>
some ((true : Bool))) <| selr (fun _ =>
(show Option (Bool) from
(d_fifo_Right n a2.Layers).bind fun x44 =>
bnd (!x44) fun x45 =>
cond x45 (some (true : Bool)) (bnd (decide (a1 ≠ 1)) fun x46 =>
cond x46 (bnd (decide ((a2.Layers.length : Int) > 1)) fun x47 =>
some (x47 : Bool)) (some (false : Bool)))).bind <| fun y5_1 =>
asrt (y5_1 = false) <|
(d_pool_Total n a2).bind fun x48 =>
(show Option (Unit) from
d_pool_Right_L2 a1 a2 n (x48.Qty : Int) (0 : Int)).bind <| fun _ =>
some ((true : Bool))) <| fun _ =>
(show Option (Bool) from
(d_fifo_Right n a2.Layers).bind fun x61 =>
bnd (!x61) fun x62 =>
cond x62 (some (true : Bool)) (bnd (decide (a1 ≠ 1)) fun x63 =>
cond x63 (bnd (decide ((a2.Layers.length : Int) > 1)) fun x64 =>
some (x64 : Bool)) (some (false : Bool)))).bind <| fun y5_1 =>
asrt (y5_1 = false) <|
(d_pool_Total n a2).bind fun x65 =>
(show Option (Unit) from
d_pool_Right_L3 a1 a2 n (x65.Qty : Int) (0 : Int)).bind <| fun _ =>
some ((true : Bool))
theorem d_pool_Right_c {n : Nat} {a1 : Int} {a2 : GPool} {r : Bool} (h0 : d_pool_Right n a1 a2 = some r) : PP Tryz.prog 98 [int a1, .agg (GPool.av a2)] (fun y => y = boo r) := by
  unfold d_pool_Right at h0
  refine pp_of_pc (R0 := fun y H => Cv (frzH H) y (boo r)) ?_ (fun y H hc => ⟨_, rfl, pvB r, hc⟩)
  refine pcw (c := _) Tryz.func98 rfl rfl ?_; intro Q hret hnorm
  refine tc tbk 2 (.mk ?_)
  refine sB 1 fun v3 => ?_
  refine tr tbk 5 (.mk ?_)
  obtain ⟨j4, h1, h0⟩ := bind_e h0
  refine rse (Out := fun y H' => (∃ (a : Unit) (k : Unit), (.inl a) = j4 ∧ y = .sc .nilIface ∧ H' = hk [(1, ⟨46, 4, true, true, v3, [[lst 3 GLayer.av a2.Layers, int a2.Pend.a0, int a2.Pend.a1, int a2.Pend.a2]]⟩)]) ∨ (∃ (a : Unit) (k : Unit), (.inr (.inl a)) = j4 ∧ y = .ifc 140 (.agg [int 0]) ∧ H' = hk [(1, ⟨46, 4, true, true, v3, [[lst 3 GLayer.av a2.Layers, int a2.Pend.a0, int a2.Pend.a1, int a2.Pend.a2]]⟩)]) ∨ (∃ (a : Unit) (k : Unit), (.inr (.inr (.inl a))) = j4 ∧ y = .ifc 138 (.agg []) ∧ H' = hk [(1, ⟨46, 4, true, true, v3, [[lst 3 GLayer.av a2.Layers, int a2.Pend.a0, int a2.Pend.a1, int a2.Pend.a2]]⟩)]) ∨ (∃ (a : Unit) (k : Unit), (.inr (.inr (.inr (.inl a)))) = j4 ∧ y = .ifc 137 (.agg []) ∧ H' = hk [(1, ⟨46, 4, true, true, v3, [[lst 3 GLayer.av a2.Layers, int a2.Pend.a0, int a2.Pend.a1, int a2.Pend.a2]]⟩)]) ∨ (∃ (a : Unit) (k : Unit), (.inr (.inr (.inr (.inr a)))) = j4 ∧ y = .ifc 136 (.agg []) ∧ H' = hk [(1, ⟨46, 4, true, true, v3, [[lst 3 GLayer.av a2.Layers, int a2.Pend.a0, int a2.Pend.a1, int a2.Pend.a2]]⟩)])) rfl rfl rfl (yl_call rfl rfl (.cons rfl (.cons rfl .nil)) cal42 ?_) ?_
  refine pcw (c := _) Tryz.func42 rfl rfl ?_; intro Q hret hnorm
  refine tc tbk 12 (.mk ?_)
  refine nb tbk h1 fun x5 h1 => ?_
  refine tr tbk 2 (.mk ?_)
  cases x5
  replace h1 := cf h1
  refine tc tbk 3 (.mk ?_)
  refine nb tbk h1 fun x6 h1 => ?_
  refine tr tbk 2 (.mk ?_)
  cases x6
  replace h1 := cf h1
  refine tc tbk 3 (.mk ?_)
  refine nb tbk h1 fun x7 h1 => ?_
  refine tr tbk 2 (.mk ?_)
  cases x7
  replace h1 := cf h1
  refine tc tbk 3 (.mk ?_)
  refine nb tbk h1 fun x8 h1 => ?_
  refine tr tbk 2 (.mk ?_)
  cases x8
  replace h1 := cf h1
  refine tc tbk 7 (.mk ?_)
  obtain rfl := nxt_e h1
  refine w_ret (hret _ _ (hk [(1, ⟨46, 4, true, true, v3, [[lst 3 GLayer.av a2.Layers, int a2.Pend.a0, int a2.Pend.a1, int a2.Pend.a2]]⟩)]) (.tmp rfl .nil) (HK.le ⟨rfl, trivial⟩) ?_)
  exact (.inl ⟨(), (), rfl, rfl, rfl⟩)
  replace h1 := ct h1
  refine tc tbk 5 (.mk ?_)
  refine sY (yv_makeIface rfl Tryz.underlying140 (by intro _ h; cases h) rfl) ?_
  refine tr tbk 2 (.mk ?_)
  obtain rfl := nxt_e h1
  refine w_ret (hret _ _ (hk [(1, ⟨46, 4, true, true, v3, [[lst 3 GLayer.av a2.Layers, int a2.Pend.a0, int a2.Pend.a1, int a2.Pend.a2]]⟩)]) (.tmp rfl .nil) (HK.le ⟨rfl, trivial⟩) ?_)
  exact (.inr (.inl ⟨(), (), rfl, rfl, rfl⟩))
  replace h1 := ct h1
  refine tc tbk 4 (.mk ?_)
  refine sY (yv_makeIface rfl Tryz.underlying138 (by intro _ h; cases h) rfl) ?_
  refine tr tbk 2 (.mk ?_)
  obtain rfl := nxt_e h1
  refine w_ret (hret _ _ (hk [(1, ⟨46, 4, true, true, v3, [[lst 3 GLayer.av a2.Layers, int a2.Pend.a0, int a2.Pend.a1, int a2.Pend.a2]]⟩)]) (.tmp rfl .nil) (HK.le ⟨rfl, trivial⟩) ?_)
  exact (.inr (.inr (.inl ⟨(), (), rfl, rfl, rfl⟩)))
  replace h1 := ct h1
  refine tc tbk 4 (.mk ?_)
  refine sY (yv_makeIface rfl Tryz.underlying137 (by intro _ h; cases h) rfl) ?_
  refine tr tbk 2 (.mk ?_)
  obtain rfl := nxt_e h1
  refine w_ret (hret _ _ (hk [(1, ⟨46, 4, true, true, v3, [[lst 3 GLayer.av a2.Layers, int a2.Pend.a0, int a2.Pend.a1, int a2.Pend.a2]]⟩)]) (.tmp rfl .nil) (HK.le ⟨rfl, trivial⟩) ?_)
  exact (.inr (.inr (.inr (.inl ⟨(), (), rfl, rfl, rfl⟩))))
  replace h1 := ct h1
  refine tc tbk 4 (.mk ?_)
  refine sY (yv_makeIface rfl Tryz.underlying136 (by intro _ h; cases h) rfl) ?_
  refine tr tbk 2 (.mk ?_)
  obtain rfl := nxt_e h1
  refine w_ret (hret _ _ (hk [(1, ⟨46, 4, true, true, v3, [[lst 3 GLayer.av a2.Layers, int a2.Pend.a0, int a2.Pend.a1, int a2.Pend.a2]]⟩)]) (.tmp rfl .nil) (HK.le ⟨rfl, trivial⟩) ?_)
  exact (.inr (.inr (.inr (.inr ⟨(), (), rfl, rfl, rfl⟩))))
  rintro y _ (⟨_, _, rfl, hc, rfl⟩ | ⟨_, _, rfl, hc, rfl⟩ | ⟨_, _, rfl, hc, rfl⟩ | ⟨_, _, rfl, hc, rfl⟩ | ⟨_, _, rfl, hc, rfl⟩)
  replace h0 := selr_l h0
  subst hc
  refine tr tbk 6 (.mk ?_)
  refine sY (yv_ifeqN rfl Tryz.underlying96 rfl rfl) ?_
  refine tr tbk 22 (.mk ?_)
  obtain rfl := nxt_e h0
  refine wR hret (rT .nil) ?_
  exact .refl _
  replace h0 := selr_r h0
  replace h0 := selr_l h0
  subst hc
  refine tr tbk 4 (.mk ?_)
  refine jn h0 [3, 4, 5] [1] (fun (a : Bool) (k : Unit) => [(28, boo a)]) (fun a k => []) ⟨fun j9 h1 => ?_, ?_⟩
  refine tc tbk 2 (.mk ?_)
  refine sY (yv_ifeq rfl Tryz.underlying96 rfl rfl) ?_
  refine tr tbk 3 (.mk ?_)
  obtain ⟨x10, e10, h1⟩ := bind_e h1
  refine sC cal130 (d_fifo_Right_c e10) ?_
  refine nb tbk h1 fun x11 h1 => ?_
  refine tr tbk 2 (.mk ?_)
  cases x11
  replace h1 := cf h1
  refine tr tbk 1 (.mk ?_)
  refine nb tbk h1 fun x12 h1 => ?_
  refine tr tbk 1 (.mk ?_)
  cases x12
  replace h1 := cf h1
  refine tr tbk 7 (.mk ?_)
  exact lf h1 () leA
  replace h1 := ct h1
  refine tr tbk 2 (.mk ?_)
  refine sY (yv_len_sl rfl Tryz.underlying43 rfl (lst_len _)) ?_
  refine nb tbk h1 fun x13 h1 => ?_
  refine tr tbk 3 (.mk ?_)
  exact lf h1 () leA
  replace h1 := ct h1
  refine tr tbk 10 (.mk ?_)
  exact lf h1 () leA
  rintro y5_1 _ h0
  replace h0 := asrt_e h0
  obtain ⟨rfl, h0⟩ := h0
  refine tc tbk 5 (.mk ?_)
  obtain ⟨x14, e14, h0⟩ := bind_e h0
  refine sC cal131 (d_pool_Total_c e14) ?_
  refine tr tbk 10 (.mk ?_)
  refine jn h0 [4] [] (fun (a : Unit) (k : Unit) => []) (fun a k => []) ⟨fun j15 h1 => ?_, ?_⟩
  refine tc tbk 1 (.mk ?_)
  refine lp (fun n (a : Int × Int) => d_pool_Right_L0 a1 a2 n a.1 a.2) ((x14.Qty : Int), (0 : Int)) () h1 [4, 5, 33] [] (fun (a : Int × Int) (k : Unit) => [(6, int a.1), (34, int a.2)]) (fun a k => []) (fun _ => rfl) ⟨leA, ?_⟩
  rintro n ⟨y6_1, y6_2⟩ _ hm h1
  replace h1 : d_pool_Right_L0 a1 a2 (n + 1) y6_1 y6_2 = some _ := h1
  rw [d_pool_Right_L0] at h1
  refine tc tbk 2 (.mk ?_)
  refine nb tbk h1 fun x16 h1 => ?_
  refine tr tbk 2 (.mk ?_)
  cases x16
  replace h1 := cf h1
  refine tc tbk 2 (.mk ?_)
  exact lf h1 () leA
  replace h1 := ct h1
  refine tc tbk 6 (.mk ?_)
  obtain ⟨x17, e17, h1⟩ := bind_e h1
  refine sY (yv_indexAT (g := fI) (l := ([a2.Pend.a0, a2.Pend.a1, a2.Pend.a2] : List Int)) (v := x17) (w := int x17) rfl Tryz.underlying44 sh3 rfl rfl rfl e17 (fun _ => rfl) hw1) ?_
  refine tr tbk 4 (.mk ?_)
  refine jn h1 [4, 5, 6, 8, 33, 34] [] (fun (a : Bool) (k : Unit) => [(52, boo a)]) (fun a k => []) ⟨fun j18 h2 => ?_, ?_⟩
  refine tc tbk 2 (.mk ?_)
  refine nb tbk h2 fun x19 h2 => ?_
  refine tr tbk 1 (.mk ?_)
  cases x19
  replace h2 := cf h2
  refine tr tbk 2 (.mk ?_)
  refine nb tbk h2 fun x20 h2 => ?_
  refine tr tbk 2 (.mk ?_)
  cases x20
  replace h2 := cf h2
  refine tr tbk 1 (.mk ?_)
  refine nb tbk h2 fun x21 h2 => ?_
  refine tr tbk 1 (.mk ?_)
  cases x21
  replace h2 := cf h2
  refine tr tbk 6 (.mk ?_)
  exact lf h2 () leA
  replace h2 := ct h2
  refine tr tbk 1 (.mk ?_)
  obtain ⟨j22, h3, h2⟩ := bind_e h2
  refine rse (Out := fun y H' => (∃ (a : Unit) (k : Unit), a = j22 ∧ y = boo false ∧ H' = hk [])) rfl rfl rfl (yl_call rfl rfl (.cons rfl .nil) cal48 ?_) ?_
  refine pcw (c := _) Tryz.func48 rfl rfl ?_; intro Q hret hnorm
  refine tc tbk 7 (.mk ?_)
  refine sY (yv_tassF rfl Tryz.underlying138 rfl rfl rfl zag138) ?_
  refine tr tbk 3 (.mk ?_)
  refine sA 2 z138 fun v23 => ?_
  refine sS ⟨138, 0, true, true, v23, [[]]⟩ sh138 ?_
  refine tr tbk 7 (.mk ?_)
  obtain rfl := nxt_e h3
  refine w_ret (hret _ _ (hk []) (.tmp rfl .nil) (fun _ _ h => nomatch h) ?_)
  exact ⟨(), (), rfl, rfl, rfl⟩
  rintro y _ ⟨_, _, rfl, hc, rfl⟩
  subst hc
  refine tr tbk 4 (.mk ?_)
  exact lf h2 () leA
  replace h2 := ct h2
  refine tr tbk 9 (.mk ?_)
  exact lf h2 () leA
  replace h2 := ct h2
  refine tr tbk 14 (.mk ?_)
  exact lf h2 () leA
  rintro y8_1 _ h1
  replace h1 := asrt_e h1
  obtain ⟨rfl, h1⟩ := h1
  refine tc tbk 5 (.mk ?_)
  refine ni tbk h1 fun x24 h1 => ?_
  refine tr tbk 4 (.mk ?_)
  refine ni tbk h1 fun x25 h1 => ?_
  refine tr tbk 2 (.mk ?_)
  exact bk (x24, x25) () h1 leA
  rintro _ _ h0
  refine tc tbk 4 (.mk ?_)
  obtain rfl := nxt_e h0
  refine wR hret (rT .nil) ?_
  exact .refl _
  replace h0 := selr_r h0
  replace h0 := selr_r h0
  replace h0 := selr_l h0
  subst hc
  refine tr tbk 4 (.mk ?_)
  refine jn h0 [3, 4, 5] [1] (fun (a : Bool) (k : Unit) => [(28, boo a)]) (fun a k => []) ⟨fun j26 h1 => ?_, ?_⟩
  refine tc tbk 2 (.mk ?_)
  refine sY (yv_ifeq rfl Tryz.underlying96 rfl rfl) ?_
  refine tr tbk 3 (.mk ?_)
  obtain ⟨x27, e27, h1⟩ := bind_e h1
  refine sC cal130 (d_fifo_Right_c e27) ?_
  refine nb tbk h1 fun x28 h1 => ?_
  refine tr tbk 2 (.mk ?_)
  cases x28
  replace h1 := cf h1
  refine tr tbk 1 (.mk ?_)
  refine nb tbk h1 fun x29 h1 => ?_
  refine tr tbk 1 (.mk ?_)
  cases x29
  replace h1 := cf h1
  refine tr tbk 7 (.mk ?_)
  exact lf h1 () leA
  replace h1 := ct h1
  refine tr tbk 2 (.mk ?_)
  refine sY (yv_len_sl rfl Tryz.underlying43 rfl (lst_len _)) ?_
  refine nb tbk h1 fun x30 h1 => ?_
  refine tr tbk 3 (.mk ?_)
  exact lf h1 () leA
  replace h1 := ct h1
  refine tr tbk 10 (.mk ?_)
  exact lf h1 () leA
  rintro y5_1 _ h0
  replace h0 := asrt_e h0
  obtain ⟨rfl, h0⟩ := h0
  refine tc tbk 5 (.mk ?_)
  obtain ⟨x31, e31, h0⟩ := bind_e h0
  refine sC cal131 (d_pool_Total_c e31) ?_
  refine tr tbk 10 (.mk ?_)
  refine jn h0 [4] [] (fun (a : Unit) (k : Unit) => []) (fun a k => []) ⟨fun j32 h1 => ?_, ?_⟩
  refine tc tbk 1 (.mk ?_)
  refine lp (fun n (a : Int × Int) => d_pool_Right_L1 a1 a2 n a.1 a.2) ((x31.Qty : Int), (0 : Int)) () h1 [4, 5, 33] [] (fun (a : Int × Int) (k : Unit) => [(6, int a.1), (34, int a.2)]) (fun a k => []) (fun _ => rfl) ⟨leA, ?_⟩
  rintro n ⟨y6_1, y6_2⟩ _ hm h1
  replace h1 : d_pool_Right_L1 a1 a2 (n + 1) y6_1 y6_2 = some _ := h1
  rw [d_pool_Right_L1] at h1
  refine tc tbk 2 (.mk ?_)
  refine nb tbk h1 fun x33 h1 => ?_
  refine tr tbk 2 (.mk ?_)
  cases x33
  replace h1 := cf h1
  refine tc tbk 2 (.mk ?_)
  exact lf h1 () leA
  replace h1 := ct h1
  refine tc tbk 6 (.mk ?_)
  obtain ⟨x34, e34, h1⟩ := bind_e h1
  refine sY (yv_indexAT (g := fI) (l := ([a2.Pend.a0, a2.Pend.a1, a2.Pend.a2] : List Int)) (v := x34) (w := int x34) rfl Tryz.underlying44 sh3 rfl rfl rfl e34 (fun _ => rfl) hw1) ?_
  refine tr tbk 4 (.mk ?_)
  refine jn h1 [4, 5, 6, 8, 33, 34] [] (fun (a : Bool) (k : Unit) => [(52, boo a)]) (fun a k => []) ⟨fun j35 h2 => ?_, ?_⟩
  refine tc tbk 2 (.mk ?_)
  refine nb tbk h2 fun x36 h2 => ?_
  refine tr tbk 1 (.mk ?_)
  cases x36
  replace h2 := cf h2
  refine tr tbk 2 (.mk ?_)
  refine nb tbk h2 fun x37 h2 => ?_
  refine tr tbk 2 (.mk ?_)
  cases x37
  replace h2 := cf h2
  refine tr tbk 1 (.mk ?_)
  refine nb tbk h2 fun x38 h2 => ?_
  refine tr tbk 1 (.mk ?_)
  cases x38
  replace h2 := cf h2
  refine tr tbk 6 (.mk ?_)
  exact lf h2 () leA
  replace h2 := ct h2
  refine tr tbk 1 (.mk ?_)
  obtain ⟨j39, h3, h2⟩ := bind_e h2
  refine rse (Out := fun y H' => (∃ (a : Unit) (k : Unit), a = j39 ∧ y = boo true ∧ H' = hk [])) rfl rfl rfl (yl_call rfl rfl (.cons rfl .nil) cal48 ?_) ?_
  refine pcw (c := _) Tryz.func48 rfl rfl ?_; intro Q hret hnorm
  refine tc tbk 7 (.mk ?_)
  refine sY (yv_tassT rfl Tryz.underlying138 rfl rfl) ?_
  refine tr tbk 3 (.mk ?_)
  refine sA 2 z138 fun v40 => ?_
  refine sS ⟨138, 0, true, true, v40, [[]]⟩ sh138 ?_
  refine tr tbk 7 (.mk ?_)
  obtain rfl := nxt_e h3
  refine w_ret (hret _ _ (hk []) (.tmp rfl .nil) (fun _ _ h => nomatch h) ?_)
  exact ⟨(), (), rfl, rfl, rfl⟩
  rintro y _ ⟨_, _, rfl, hc, rfl⟩
  subst hc
  refine tr tbk 4 (.mk ?_)
  exact lf h2 () leA
  replace h2 := ct h2
  refine tr tbk 9 (.mk ?_)
  exact lf h2 () leA
  replace h2 := ct h2
  refine tr tbk 14 (.mk ?_)
  exact lf h2 () leA
  rintro y8_1 _ h1
  replace h1 := asrt_e h1
  obtain ⟨rfl, h1⟩ := h1
  refine tc tbk 5 (.mk ?_)
  refine ni tbk h1 fun x41 h1 => ?_
  refine tr tbk 4 (.mk ?_)
  refine ni tbk h1 fun x42 h1 => ?_
  refine tr tbk 2 (.mk ?_)
  exact bk (x41, x42) () h1 leA
  rintro _ _ h0
  refine tc tbk 4 (.mk ?_)
  obtain rfl := nxt_e h0
  refine wR hret (rT .nil) ?_
  exact .refl _
  replace h0 := selr_r h0
  replace h0 := selr_r h0
  replace h0 := selr_r h0
  replace h0 := selr_l h0
  subst hc
  refine tr tbk 4 (.mk ?_)
  refine jn h0 [3, 4, 5] [1] (fun (a : Bool) (k : Unit) => [(28, boo a)]) (fun a k => []) ⟨fun j43 h1 => ?_, ?_⟩
  refine tc tbk 2 (.mk ?_)
  refine sY (yv_ifeq rfl Tryz.underlying96 rfl rfl) ?_
  refine tr tbk 3 (.mk ?_)
  obtain ⟨x44, e44, h1⟩ := bind_e h1
  refine sC cal130 (d_fifo_Right_c e44) ?_
  refine nb tbk h1 fun x45 h1 => ?_
  refine tr tbk 2 (.mk ?_)
  cases x45
  replace h1 := cf h1
  refine tr tbk 1 (.mk ?_)
  refine nb tbk h1 fun x46 h1 => ?_
  refine tr tbk 1 (.mk ?_)
  cases x46
  replace h1 := cf h1
  refine tr tbk 7 (.mk ?_)
  exact lf h1 () leA
  replace h1 := ct h1
  refine tr tbk 2 (.mk ?_)
  refine sY (yv_len_sl rfl Tryz.underlying43 rfl (lst_len _)) ?_
  refine nb tbk h1 fun x47 h1 => ?_
  refine tr tbk 3 (.mk ?_)
  exact lf h1 () leA
  replace h1 := ct h1
  refine tr tbk 10 (.mk ?_)
  exact lf h1 () leA
  rintro y5_1 _ h0
  replace h0 := asrt_e h0
  obtain ⟨rfl, h0⟩ := h0
  refine tc tbk 5 (.mk ?_)
  obtain ⟨x48, e48, h0⟩ := bind_e h0
  refine sC cal131 (d_pool_Total_c e48) ?_
  refine tr tbk 10 (.mk ?_)
  refine jn h0 [4] [] (fun (a : Unit) (k : Unit) => []) (fun a k => []) ⟨fun j49 h1 => ?_, ?_⟩
  refine tc tbk 1 (.mk ?_)
  refine lp (fun n (a : Int × Int) => d_pool_Right_L2 a1 a2 n a.1 a.2) ((x48.Qty : Int), (0 : Int)) () h1 [4, 5, 33] [] (fun (a : Int × Int) (k : Unit) => [(6, int a.1), (34, int a.2)]) (fun a k => []) (fun _ => rfl) ⟨leA, ?_⟩
  rintro n ⟨y6_1, y6_2⟩ _ hm h1
  replace h1 : d_pool_Right_L2 a1 a2 (n + 1) y6_1 y6_2 = some _ := h1
  rw [d_pool_Right_L2] at h1
  refine tc tbk 2 (.mk ?_)
  refine nb tbk h1 fun x50 h1 => ?_
  refine tr tbk 2 (.mk ?_)
  cases x50
  replace h1 := cf h1
  refine tc tbk 2 (.mk ?_)
  exact lf h1 () leA
  replace h1 := ct h1
  refine tc tbk 6 (.mk ?_)
  obtain ⟨x51, e51, h1⟩ := bind_e h1
  refine sY (yv_indexAT (g := fI) (l := ([a2.Pend.a0, a2.Pend.a1, a2.Pend.a2] : List Int)) (v := x51) (w := int x51) rfl Tryz.underlying44 sh3 rfl rfl rfl e51 (fun _ => rfl) hw1) ?_
  refine tr tbk 4 (.mk ?_)
  refine jn h1 [4, 5, 6, 8, 33, 34] [] (fun (a : Bool) (k : Unit) => [(52, boo a)]) (fun a k => []) ⟨fun j52 h2 => ?_, ?_⟩
  refine tc tbk 2 (.mk ?_)
  refine nb tbk h2 fun x53 h2 => ?_
  refine tr tbk 1 (.mk ?_)
  cases x53
  replace h2 := cf h2
  refine tr tbk 2 (.mk ?_)
  refine nb tbk h2 fun x54 h2 => ?_
  refine tr tbk 2 (.mk ?_)
  cases x54
  replace h2 := cf h2
  refine tr tbk 1 (.mk ?_)
  refine nb tbk h2 fun x55 h2 => ?_
  refine tr tbk 1 (.mk ?_)
  cases x55
  replace h2 := cf h2
  refine tr tbk 6 (.mk ?_)
  exact lf h2 () leA
  replace h2 := ct h2
  refine tr tbk 1 (.mk ?_)
  obtain ⟨j56, h3, h2⟩ := bind_e h2
  refine rse (Out := fun y H' => (∃ (a : Unit) (k : Unit), a = j56 ∧ y = boo false ∧ H' = hk [])) rfl rfl rfl (yl_call rfl rfl (.cons rfl .nil) cal48 ?_) ?_
  refine pcw (c := _) Tryz.func48 rfl rfl ?_; intro Q hret hnorm
  refine tc tbk 7 (.mk ?_)
  refine sY (yv_tassF rfl Tryz.underlying138 rfl rfl rfl zag138) ?_
  refine tr tbk 3 (.mk ?_)
  refine sA 2 z138 fun v57 => ?_
  refine sS ⟨138, 0, true, true, v57, [[]]⟩ sh138 ?_
  refine tr tbk 7 (.mk ?_)
  obtain rfl := nxt_e h3
  refine w_ret (hret _ _ (hk []) (.tmp rfl .nil) (fun _ _ h => nomatch h) ?_)
  exact ⟨(), (), rfl, rfl, rfl⟩
  rintro y _ ⟨_, _, rfl, hc, rfl⟩
  subst hc
  refine tr tbk 4 (.mk ?_)
  exact lf h2 () leA
  replace h2 := ct h2
  refine tr tbk 9 (.mk ?_)
  exact lf h2 () leA
  replace h2 := ct h2
  refine tr tbk 14 (.mk ?_)
  exact lf h2 () leA
  rintro y8_1 _ h1
  replace h1 := asrt_e h1
  obtain ⟨rfl, h1⟩ := h1
  refine tc tbk 5 (.mk ?_)
  refine ni tbk h1 fun x58 h1 => ?_
  refine tr tbk 4 (.mk ?_)
  refine ni tbk h1 fun x59 h1 => ?_
  refine tr tbk 2 (.mk ?_)
  exact bk (x58, x59) () h1 leA
  rintro _ _ h0
  refine tc tbk 4 (.mk ?_)
  obtain rfl := nxt_e h0
  refine wR hret (rT .nil) ?_
  exact .refl _
  replace h0 := selr_r h0
  replace h0 := selr_r h0
  replace h0 := selr_r h0
  replace h0 := selr_r h0
  subst hc
  refine tr tbk 4 (.mk ?_)
  refine jn h0 [3, 4, 5] [1] (fun (a : Bool) (k : Unit) => [(28, boo a)]) (fun a k => []) ⟨fun j60 h1 => ?_, ?_⟩
  refine tc tbk 2 (.mk ?_)
  refine sY (yv_ifeq rfl Tryz.underlying96 rfl rfl) ?_
  refine tr tbk 3 (.mk ?_)
  obtain ⟨x61, e61, h1⟩ := bind_e h1
  refine sC cal130 (d_fifo_Right_c e61) ?_
  refine nb tbk h1 fun x62 h1 => ?_
  refine tr tbk 2 (.mk ?_)
  cases x62
  replace h1 := cf h1
  refine tr tbk 1 (.mk ?_)
  refine nb tbk h1 fun x63 h1 => ?_
  refine tr tbk 1 (.mk ?_)
  cases x63
  replace h1 := cf h1
  refine tr tbk 7 (.mk ?_)
  exact lf h1 () leA
  replace h1 := ct h1
  refine tr tbk 2 (.mk ?_)
  refine sY (yv_len_sl rfl Tryz.underlying43 rfl (lst_len _)) ?_
  refine nb tbk h1 fun x64 h1 => ?_
  refine tr tbk 3 (.mk ?_)
  exact lf h1 () leA
  replace h1 := ct h1
  refine tr tbk 10 (.mk ?_)
  exact lf h1 () leA
  rintro y5_1 _ h0
  replace h0 := asrt_e h0
  obtain ⟨rfl, h0⟩ := h0
  refine tc tbk 5 (.mk ?_)
  obtain ⟨x65, e65, h0⟩ := bind_e h0
  refine sC cal131 (d_pool_Total_c e65) ?_
  refine tr tbk 10 (.mk ?_)
  refine jn h0 [4] [] (fun (a : Unit) (k : Unit) => []) (fun a k => []) ⟨fun j66 h1 => ?_, ?_⟩
  refine tc tbk 1 (.mk ?_)
  refine lp (fun n (a : Int × Int) => d_pool_Right_L3 a1 a2 n a.1 a.2) ((x65.Qty : Int), (0 : Int)) () h1 [4, 5, 33] [] (fun (a : Int × Int) (k : Unit) => [(6, int a.1), (34, int a.2)]) (fun a k => []) (fun _ => rfl) ⟨leA, ?_⟩
  rintro n ⟨y6_1, y6_2⟩ _ hm h1
  replace h1 : d_pool_Right_L3 a1 a2 (n + 1) y6_1 y6_2 = some _ := h1
  rw [d_pool_Right_L3] at h1
  refine tc tbk 2 (.mk ?_)
  refine nb tbk h1 fun x67 h1 => ?_
  refine tr tbk 2 (.mk ?_)
  cases x67
  replace h1 := cf h1
  refine tc tbk 2 (.mk ?_)
  exact lf h1 () leA
  replace h1 := ct h1
  refine tc tbk 6 (.mk ?_)
  obtain ⟨x68, e68, h1⟩ := bind_e h1
  refine sY (yv_indexAT (g := fI) (l := ([a2.Pend.a0, a2.Pend.a1, a2.Pend.a2] : List Int)) (v := x68) (w := int x68) rfl Tryz.underlying44 sh3 rfl rfl rfl e68 (fun _ => rfl) hw1) ?_
  refine tr tbk 4 (.mk ?_)
  refine jn h1 [4, 5, 6, 8, 33, 34] [] (fun (a : Bool) (k : Unit) => [(52, boo a)]) (fun a k => []) ⟨fun j69 h2 => ?_, ?_⟩
  refine tc tbk 2 (.mk ?_)
  refine nb tbk h2 fun x70 h2 => ?_
  refine tr tbk 1 (.mk ?_)
  cases x70
  replace h2 := cf h2
  refine tr tbk 2 (.mk ?_)
  refine nb tbk h2 fun x71 h2 => ?_
  refine tr tbk 2 (.mk ?_)
  cases x71
  replace h2 := cf h2
  refine tr tbk 1 (.mk ?_)
  refine nb tbk h2 fun x72 h2 => ?_
  refine tr tbk 1 (.mk ?_)
  cases x72
  replace h2 := cf h2
  refine tr tbk 6 (.mk ?_)
  exact lf h2 () leA
  replace h2 := ct h2
  refine tr tbk 1 (.mk ?_)
  obtain ⟨j73, h3, h2⟩ := bind_e h2
  refine rse (Out := fun y H' => (∃ (a : Unit) (k : Unit), a = j73 ∧ y = boo false ∧ H' = hk [])) rfl rfl rfl (yl_call rfl rfl (.cons rfl .nil) cal48 ?_) ?_
  refine pcw (c := _) Tryz.func48 rfl rfl ?_; intro Q hret hnorm
  refine tc tbk 7 (.mk ?_)
  refine sY (yv_tassF rfl Tryz.underlying138 rfl rfl rfl zag138) ?_
  refine tr tbk 3 (.mk ?_)
  refine sA 2 z138 fun v74 => ?_
  refine sS ⟨138, 0, true, true, v74, [[]]⟩ sh138 ?_
  refine tr tbk 7 (.mk ?_)
  obtain rfl := nxt_e h3
  refine w_ret (hret _ _ (hk []) (.tmp rfl .nil) (fun _ _ h => nomatch h) ?_)
  exact ⟨(), (), rfl, rfl, rfl⟩
  rintro y _ ⟨_, _, rfl, hc, rfl⟩
  subst hc
  refine tr tbk 4 (.mk ?_)
  exact lf h2 () leA
  replace h2 := ct h2
  refine tr tbk 9 (.mk ?_)
  exact lf h2 () leA
  replace h2 := ct h2
  refine tr tbk 14 (.mk ?_)
  exact lf h2 () leA
  rintro y8_1 _ h1
  replace h1 := asrt_e h1
  obtain ⟨rfl, h1⟩ := h1
  refine tc tbk 5 (.mk ?_)
  refine ni tbk h1 fun x75 h1 => ?_
  refine tr tbk 4 (.mk ?_)
  refine ni tbk h1 fun x76 h1 => ?_
  refine tr tbk 2 (.mk ?_)
  exact bk (x75, x76) () h1 leA
  rintro _ _ h0
  refine tc tbk 4 (.mk ?_)
  obtain rfl := nxt_e h0
  refine wR hret (rT .nil) ?_
  exact .refl _
end Go.Pv
