import Derived.Test.YtpbcnilkippahaaGreatK51c
set_option linter.unusedVariables false
namespace Go.Pv
open Go.Proofs
set_option maxRecDepth 10000
set_option maxHeartbeats 1000000
def d_ref14_samePapers_L0 (a1 : GState) (a2 : GState) : Nat → Int → Option (Unit)
  | 0, _ => none
  | n + 1, y1_1 =>
    bnd (decide (y1_1 < (a1.Receipts.length : Int))) fun x10 =>
    cond x10 ((ix a1.Receipts y1_1).bind fun x11 =>
    (ix a2.Receipts y1_1).bind fun x12 =>
    bnd (!decide ((x11 : GReceipt) = (x12 : GReceipt))) fun x13 =>
    asrt (x13 = false) <|
    bnd (w64 (y1_1 + 1)) fun x14 =>
    d_ref14_samePapers_L0 a1 a2 n (x14 : Int)) (some ())
def d_ref14_samePapers_L1 (a1 : GState) (a2 : GState) : Nat → Int → Option (Unit)
  | 0, _ => none
  | n + 1, y3_1 =>
    bnd (decide (y3_1 < (a1.Sales.length : Int))) fun x16 =>
    cond x16 ((ix a1.Sales y3_1).bind fun x17 =>
    (ix a2.Sales y3_1).bind fun x18 =>
    bnd (!decide ((x17 : GSale) = (x18 : GSale))) fun x19 =>
    asrt (x19 = false) <|
    bnd (w64 (y3_1 + 1)) fun x20 =>
    d_ref14_samePapers_L1 a1 a2 n (x20 : Int)) (some ())
def d_ref14_samePapers_L2 (a1 : GState) : Nat → Option (Unit)
  | 0 => none
  | n + 1 =>
    bnd (decide (0 < (a1.Transits.length : Int))) fun x22 =>
    asrt (x22 = false) <|
    some ()
def d_ref14_samePapers (n : Nat) (a1 : GState) (a2 : GState) : Option (Bool) :=
(show Option (Bool) from
bnd (decide ((a1.Receipts.length : Int) ≠ (a2.Receipts.length : Int))) fun x6 =>
cond x6 (some (true : Bool)) (bnd (decide ((a1.Sales.length : Int) ≠ (a2.Sales.length : Int))) fun x7 =>
cond x7 (some (true : Bool)) (bnd (decide ((a1.Transits.length : Int) ≠ (a2.Transits.length : Int))) fun x8 =>
some (x8 : Bool)))).bind <| fun y0_1 =>
asrt (y0_1 = false) <|
(show Option (Unit) from
d_ref14_samePapers_L0 a1 a2 n (0 : Int)).bind <| fun _ =>
(show Option (Unit) from
d_ref14_samePapers_L1 a1 a2 n (0 : Int)).bind <| fun _ =>
(show Option (Unit) from
d_ref14_samePapers_L2 a1 n).bind <| fun _ =>
some ((true : Bool))
theorem d_ref14_samePapers_c {n : Nat} {a1 : GState} {a2 : GState} {r : Bool} (h0 : d_ref14_samePapers n a1 a2 = some r) : PP Tryz.prog 27 [.agg (GState.av a1), .agg (GState.av a2)] (fun y => y = boo r) := by
  unfold d_ref14_samePapers at h0
  refine pp_of_pc (R0 := fun y H => Cv (frzH H) y (boo r)) ?_ (fun y H hc => ⟨_, rfl, pvB r, hc⟩)
  refine pcw (c := _) Tryz.func27 rfl rfl ?_; intro Q hret hnorm
  refine tc tbk 2 (.mk ?_)
  refine sB 1 fun v3 => ?_
  refine sB 2 fun v4 => ?_
  refine tr tbk 4 (.mk ?_)
  refine jn h0 [2, 3, 4] [1, 2] (fun (a : Bool) (k : Unit) => [(32, boo a)]) (fun a k => []) ⟨fun j5 h1 => ?_, ?_⟩
  refine tc tbk 3 (.mk ?_)
  refine sY (yv_len_sl rfl Tryz.underlying28 rfl (lst_len _)) ?_
  refine tr tbk 2 (.mk ?_)
  refine sY (yv_len_sl rfl Tryz.underlying28 rfl (lst_len _)) ?_
  refine nb tbk h1 fun x6 h1 => ?_
  refine tr tbk 1 (.mk ?_)
  cases x6
  replace h1 := cf h1
  refine tr tbk 2 (.mk ?_)
  refine sY (yv_len_sl rfl Tryz.underlying29 rfl (lst_len _)) ?_
  refine tr tbk 2 (.mk ?_)
  refine sY (yv_len_sl rfl Tryz.underlying29 rfl (lst_len _)) ?_
  refine nb tbk h1 fun x7 h1 => ?_
  refine tr tbk 2 (.mk ?_)
  cases x7
  replace h1 := cf h1
  refine tr tbk 2 (.mk ?_)
  refine sY (yv_len_sl rfl Tryz.underlying30 rfl (lst_len _)) ?_
  refine tr tbk 2 (.mk ?_)
  refine sY (yv_len_sl rfl Tryz.underlying30 rfl (lst_len _)) ?_
  refine nb tbk h1 fun x8 h1 => ?_
  refine tr tbk 2 (.mk ?_)
  exact lf h1 () leA
  replace h1 := ct h1
  refine tr tbk 9 (.mk ?_)
  exact lf h1 () leA
  replace h1 := ct h1
  refine tr tbk 18 (.mk ?_)
  exact lf h1 () leA
  rintro y0_1 _ h0
  replace h0 := asrt_e h0
  obtain ⟨rfl, h0⟩ := h0
  refine tc tbk 7 (.mk ?_)
  refine jn h0 [2, 3, 4] [1, 2] (fun (a : Unit) (k : Unit) => []) (fun a k => []) ⟨fun j9 h1 => ?_, ?_⟩
  refine tc tbk 1 (.mk ?_)
  refine lp (fun n (a : Int) => d_ref14_samePapers_L0 a1 a2 n a) (0 : Int) () h1 [2, 3, 4] [1, 2] (fun (a : Int) (k : Unit) => [(5, int a)]) (fun a k => []) (fun _ => rfl) ⟨leA, ?_⟩
  rintro n y1_1 _ hm h1
  replace h1 : d_ref14_samePapers_L0 a1 a2 (n + 1) y1_1 = some _ := h1
  rw [d_ref14_samePapers_L0] at h1
  refine tc tbk 6 (.mk ?_)
  refine sY (yv_len_sl rfl Tryz.underlying28 rfl (lst_len _)) ?_
  refine nb tbk h1 fun x10 h1 => ?_
  refine tr tbk 1 (.mk ?_)
  cases x10
  replace h1 := cf h1
  refine tc tbk 2 (.mk ?_)
  exact lf h1 () leA
  replace h1 := ct h1
  refine tc tbk 5 (.mk ?_)
  refine c_drawE [0, 1, 0, 7, 15, 0, 32, 0, 224, 480, 1023] (rl [(0, [1]), (1, [1]), (5, [2]), (6, [2])] []) (fun i => [1, 2]) (fun i => true) [0, 1, 2, 3, 4, 5, 6, 7, 8, 9, 10] mixed (by kernel_rfl) ?_; intro K hK
  refine eF fo32_2 ?_
  refine eL sh28 ?_
  refine eM ?_
  obtain ⟨x11, e11, h1⟩ := bind_e h1
  refine eP (fun H hH => yv_ixT rfl Tryz.underlying28 sh49 rfl rfl e11) ?_
  refine eP (fun H hH => yv_load rfl sh49 rfl (.pp _) rfl) ?_
  refine eF fo32_2 ?_
  refine eL sh28 ?_
  refine eM ?_
  obtain ⟨x12, e12, h1⟩ := bind_e h1
  refine eP (fun H hH => yv_ixT rfl Tryz.underlying28 sh49 rfl rfl e12) ?_
  refine eP (fun H hH => yv_load rfl sh49 rfl (.pp _) rfl) ?_
  obtain ⟨x13, e13, h1⟩ := bnd_e h1
  refine eP (fun H hH => yv_aneq (r' := x13) rfl fl49 rfl rfl (.cons (.int Tryz.underlying3) sh3 (.cons (.int Tryz.underlying3) sh3 (.cons (.int Tryz.underlying3) sh3 (.cons (.int Tryz.underlying3) sh3 (.cons (.int Tryz.underlying3) sh3 (.cons (.int Tryz.underlying3) sh3 (.cons (.int Tryz.underlying3) sh3 (.cons (.int Tryz.underlying3) sh3 (.nil _))))))))) ((congrArg Bool.not (GReceipt.eqv (x11 : GReceipt) (x12 : GReceipt))).trans e13)) ?_
  refine de_nil (hK _ ?_)
  replace h1 := asrt_e h1
  obtain ⟨rfl, h1⟩ := h1
  refine tc tbk 5 (.mk ?_)
  refine ni tbk h1 fun x14 h1 => ?_
  refine tr tbk 2 (.mk ?_)
  exact bk x14 () h1 leA
  rintro _ _ h0
  refine tc tbk 5 (.mk ?_)
  refine jn h0 [2, 3, 4] [1, 2] (fun (a : Unit) (k : Unit) => []) (fun a k => []) ⟨fun j15 h1 => ?_, ?_⟩
  refine tc tbk 1 (.mk ?_)
  refine lp (fun n (a : Int) => d_ref14_samePapers_L1 a1 a2 n a) (0 : Int) () h1 [2, 3, 4] [1, 2] (fun (a : Int) (k : Unit) => [(6, int a)]) (fun a k => []) (fun _ => rfl) ⟨leA, ?_⟩
  rintro n y3_1 _ hm h1
  replace h1 : d_ref14_samePapers_L1 a1 a2 (n + 1) y3_1 = some _ := h1
  rw [d_ref14_samePapers_L1] at h1
  refine tc tbk 6 (.mk ?_)
  refine sY (yv_len_sl rfl Tryz.underlying29 rfl (lst_len _)) ?_
  refine nb tbk h1 fun x16 h1 => ?_
  refine tr tbk 1 (.mk ?_)
  cases x16
  replace h1 := cf h1
  refine tc tbk 2 (.mk ?_)
  exact lf h1 () leA
  replace h1 := ct h1
  refine tc tbk 5 (.mk ?_)
  refine c_drawE [0, 1, 0, 7, 15, 0, 32, 0, 224, 480, 1023] (rl [(0, [1]), (1, [1]), (5, [2]), (6, [2])] []) (fun i => [1, 2]) (fun i => true) [0, 1, 2, 3, 4, 5, 6, 7, 8, 9, 10] mixed (by kernel_rfl) ?_; intro K hK
  refine eF fo32_3 ?_
  refine eL sh29 ?_
  refine eM ?_
  obtain ⟨x17, e17, h1⟩ := bind_e h1
  refine eP (fun H hH => yv_ixT rfl Tryz.underlying29 sh54 rfl rfl e17) ?_
  refine eP (fun H hH => yv_load rfl sh54 rfl (.pp _) rfl) ?_
  refine eF fo32_3 ?_
  refine eL sh29 ?_
  refine eM ?_
  obtain ⟨x18, e18, h1⟩ := bind_e h1
  refine eP (fun H hH => yv_ixT rfl Tryz.underlying29 sh54 rfl rfl e18) ?_
  refine eP (fun H hH => yv_load rfl sh54 rfl (.pp _) rfl) ?_
  obtain ⟨x19, e19, h1⟩ := bnd_e h1
  refine eP (fun H hH => yv_aneq (r' := x19) rfl fl54 rfl rfl (.cons (.int Tryz.underlying3) sh3 (.cons (.int Tryz.underlying3) sh3 (.cons (.int Tryz.underlying3) sh3 (.cons (.int Tryz.underlying3) sh3 (.cons (.int Tryz.underlying3) sh3 (.cons (.int Tryz.underlying3) sh3 (.cons (.int Tryz.underlying3) sh3 (.cons (.int Tryz.underlying3) sh3 (.cons (.bool Tryz.underlying4) sh4 (.nil _)))))))))) ((congrArg Bool.not (GSale.eqv (x17 : GSale) (x18 : GSale))).trans e19)) ?_
  refine de_nil (hK _ ?_)
  replace h1 := asrt_e h1
  obtain ⟨rfl, h1⟩ := h1
  refine tc tbk 5 (.mk ?_)
  refine ni tbk h1 fun x20 h1 => ?_
  refine tr tbk 2 (.mk ?_)
  exact bk x20 () h1 leA
  rintro _ _ h0
  refine tc tbk 5 (.mk ?_)
  refine jn h0 [4] [] (fun (a : Unit) (k : Unit) => []) (fun a k => []) ⟨fun j21 h1 => ?_, ?_⟩
  refine tc tbk 1 (.mk ?_)
  refine lp (fun n (a : Unit) => d_ref14_samePapers_L2 a1 n) () () h1 [2, 3, 4, 7] [1, 2] (fun (a : Unit) (k : Unit) => []) (fun a k => []) (fun _ => rfl) ⟨leA, ?_⟩
  rintro n _ _ hm h1
  replace h1 : d_ref14_samePapers_L2 a1 (n + 1) = some _ := h1
  rw [d_ref14_samePapers_L2] at h1
  refine tc tbk 6 (.mk ?_)
  refine sY (yv_len_sl rfl Tryz.underlying30 rfl (lst_len _)) ?_
  refine nb tbk h1 fun x22 h1 => ?_
  refine tr tbk 1 (.mk ?_)
  replace h1 := asrt_e h1
  obtain ⟨rfl, h1⟩ := h1
  refine tc tbk 2 (.mk ?_)
  exact lf h1 () leA
  rintro _ _ h0
  refine tc tbk 4 (.mk ?_)
  obtain rfl := nxt_e h0
  refine wR hret (rT .nil) ?_
  exact .refl _
def d_ref09_SameLayer (a1 : GLayer) (a2 : GLayer) : Option (Bool) :=
(show Option (Bool) from
bnd (decide (a1.Qty = a2.Qty)) fun x6 =>
cond x6 (bnd (decide (a1.Value = a2.Value)) fun x7 =>
cond x7 (bnd (decide (a1.Profit = a2.Profit)) fun x8 =>
some (x8 : Bool)) (some (false : Bool))) (some (false : Bool))).bind <| fun y0_1 =>
some ((y0_1 : Bool))
theorem d_ref09_SameLayer_c {a1 : GLayer} {a2 : GLayer} {r : Bool} (h0 : d_ref09_SameLayer a1 a2 = some r) : PP Tryz.prog 114 [.agg (GLayer.av a1), .agg (GLayer.av a2)] (fun y => y = boo r) := by
  unfold d_ref09_SameLayer at h0
  refine pp_of_pc (R0 := fun y H => Cv (frzH H) y (boo r)) ?_ (fun y H hc => ⟨_, rfl, pvB r, hc⟩)
  refine pcw (c := _) Tryz.func114 rfl rfl ?_; intro Q hret hnorm
  refine tc tbk 2 (.mk ?_)
  refine sB 1 fun v3 => ?_
  refine sB 2 fun v4 => ?_
  refine tr tbk 3 (.mk ?_)
  refine jn h0 [] [] (fun (a : Bool) (k : Unit) => [(4, boo a)]) (fun a k => []) ⟨fun j5 h1 => ?_, ?_⟩
  refine tc tbk 5 (.mk ?_)
  refine nb tbk h1 fun x6 h1 => ?_
  refine tr tbk 1 (.mk ?_)
  cases x6
  replace h1 := cf h1
  refine tr tbk 15 (.mk ?_)
  exact lf h1 () leA
  replace h1 := ct h1
  refine tr tbk 4 (.mk ?_)
  refine nb tbk h1 fun x7 h1 => ?_
  refine tr tbk 2 (.mk ?_)
  cases x7
  replace h1 := cf h1
  refine tr tbk 8 (.mk ?_)
  exact lf h1 () leA
  replace h1 := ct h1
  refine tr tbk 4 (.mk ?_)
  refine nb tbk h1 fun x8 h1 => ?_
  refine tr tbk 3 (.mk ?_)
  exact lf h1 () leA
  rintro y0_1 _ h0
  obtain rfl := nxt_e h0
  refine wR hret (rT .nil) ?_
  exact .refl _
def d_ref09_Same_L0 (a1 : List GLayer) (a2 : List GLayer) : Nat → Int → Option (Unit)
  | 0, _ => none
  | n + 1, y0_1 =>
    bnd (decide (y0_1 < (a1.length : Int))) fun x5 =>
    cond x5 ((ix a1 y0_1).bind fun x6 =>
    (ix a2 y0_1).bind fun x7 =>
    (d_ref09_SameLayer x6 x7).bind fun x8 =>
    bnd (!x8) fun x9 =>
    asrt (x9 = false) <|
    bnd (w64 (y0_1 + 1)) fun x10 =>
    d_ref09_Same_L0 a1 a2 n (x10 : Int)) (some ())
def d_ref09_Same (n : Nat) (a1 : List GLayer) (a2 : List GLayer) : Option (Bool) :=
bnd (decide ((a1.length : Int) ≠ (a2.length : Int))) fun x3 =>
asrt (x3 = false) <|
(show Option (Unit) from
d_ref09_Same_L0 a1 a2 n (0 : Int)).bind <| fun _ =>
some ((true : Bool))
theorem d_ref09_Same_c {n : Nat} {a1 : List GLayer} {a2 : List GLayer} {r : Bool} (h0 : d_ref09_Same n a1 a2 = some r) : PP Tryz.prog 88 [lst 3 GLayer.av a1, lst 3 GLayer.av a2] (fun y => y = boo r) := by
  unfold d_ref09_Same at h0
  refine pp_of_pc (R0 := fun y H => Cv (frzH H) y (boo r)) ?_ (fun y H hc => ⟨_, rfl, pvB r, hc⟩)
  refine pcw (c := _) Tryz.func88 rfl rfl ?_; intro Q hret hnorm
  refine tc tbk 8 (.mk ?_)
  refine sY (yv_len_sl rfl Tryz.underlying79 rfl (lst_len _)) ?_
  refine tr tbk 1 (.mk ?_)
  refine sY (yv_len_sl rfl Tryz.underlying79 rfl (lst_len _)) ?_
  refine nb tbk h0 fun x3 h0 => ?_
  refine tr tbk 1 (.mk ?_)
  replace h0 := asrt_e h0
  obtain ⟨rfl, h0⟩ := h0
  refine tc tbk 7 (.mk ?_)
  refine jn h0 [4] [] (fun (a : Unit) (k : Unit) => []) (fun a k => []) ⟨fun j4 h1 => ?_, ?_⟩
  refine tc tbk 1 (.mk ?_)
  refine lp (fun n (a : Int) => d_ref09_Same_L0 a1 a2 n a) (0 : Int) () h1 [0, 1, 4] [] (fun (a : Int) (k : Unit) => [(5, int a)]) (fun a k => []) (fun _ => rfl) ⟨leA, ?_⟩
  rintro n y0_1 _ hm h1
  replace h1 : d_ref09_Same_L0 a1 a2 (n + 1) y0_1 = some _ := h1
  rw [d_ref09_Same_L0] at h1
  refine tc tbk 5 (.mk ?_)
  refine sY (yv_len_sl rfl Tryz.underlying79 rfl (lst_len _)) ?_
  refine nb tbk h1 fun x5 h1 => ?_
  refine tr tbk 1 (.mk ?_)
  cases x5
  replace h1 := cf h1
  refine tc tbk 2 (.mk ?_)
  exact lf h1 () leA
  replace h1 := ct h1
  refine tc tbk 5 (.mk ?_)
  refine c_drawE [0, 0, 3, 7, 0, 0, 48, 112, 255, 511] (fun i => []) (fun i => []) (fun i => true) [0, 1, 2, 3, 4, 5, 6, 7, 8, 9] mixed (by kernel_rfl) ?_; intro K hK
  iterate 2 refine eM ?_
  obtain ⟨x6, e6, h1⟩ := bind_e h1
  refine eP (fun H hH => yv_ixT rfl Tryz.underlying79 sh60 rfl rfl e6) ?_
  refine eP (fun H hH => yv_load rfl sh60 rfl (.pp _) rfl) ?_
  iterate 2 refine eM ?_
  obtain ⟨x7, e7, h1⟩ := bind_e h1
  refine eP (fun H hH => yv_ixT rfl Tryz.underlying79 sh60 rfl rfl e7) ?_
  refine eP (fun H hH => yv_load rfl sh60 rfl (.pp _) rfl) ?_
  obtain ⟨x8, e8, h1⟩ := bind_e h1
  refine eP (fun H hH => yv_callP rfl rfl (.cons rfl (.cons rfl .nil)) cal114 (CvL.refl _) (d_ref09_SameLayer_c e8)) ?_
  obtain ⟨x9, e9, h1⟩ := bnd_e h1
  refine eP (fun H hH => yv_not rfl rfl e9) ?_
  refine de_nil (hK _ ?_)
  replace h1 := asrt_e h1
  obtain ⟨rfl, h1⟩ := h1
  refine tc tbk 5 (.mk ?_)
  refine ni tbk h1 fun x10 h1 => ?_
  refine tr tbk 2 (.mk ?_)
  exact bk x10 () h1 leA
  rintro _ _ h0
  refine tc tbk 4 (.mk ?_)
  obtain rfl := nxt_e h0
  refine wR hret (rT .nil) ?_
  exact .refl _
def d_ref11_Same (n : Nat) (a1 : GPool) (a2 : GPool) : Option (Bool) :=
(show Option (Bool) from
(d_ref09_Same n a1.Layers a2.Layers).bind fun x6 =>
cond x6 (bnd (decide (a1.Pend.a0 = a2.Pend.a0)) fun x7 =>
cond x7 (bnd (decide (a1.Pend.a1 = a2.Pend.a1)) fun x8 =>
cond x8 (bnd (decide (a1.Pend.a2 = a2.Pend.a2)) fun x9 =>
some (x9 : Bool)) (some (false : Bool))) (some (false : Bool))) (some (false : Bool))).bind <| fun y0_1 =>
some ((y0_1 : Bool))
theorem d_ref11_Same_c {n : Nat} {a1 : GPool} {a2 : GPool} {r : Bool} (h0 : d_ref11_Same n a1 a2 = some r) : PP Tryz.prog 52 [.agg (GPool.av a1), .agg (GPool.av a2)] (fun y => y = boo r) := by
  unfold d_ref11_Same at h0
  refine pp_of_pc (R0 := fun y H => Cv (frzH H) y (boo r)) ?_ (fun y H hc => ⟨_, rfl, pvB r, hc⟩)
  refine pcw (c := _) Tryz.func52 rfl rfl ?_; intro Q hret hnorm
  refine tc tbk 2 (.mk ?_)
  refine sB 1 fun v3 => ?_
  refine sB 2 fun v4 => ?_
  refine tr tbk 3 (.mk ?_)
  refine jn h0 [] [] (fun (a : Bool) (k : Unit) => [(4, boo a)]) (fun a k => []) ⟨fun j5 h1 => ?_, ?_⟩
  refine tc tbk 5 (.mk ?_)
  obtain ⟨x6, e6, h1⟩ := bind_e h1
  refine sC cal88 (d_ref09_Same_c e6) ?_
  refine tr tbk 1 (.mk ?_)
  cases x6
  replace h1 := cf h1
  refine tr tbk 28 (.mk ?_)
  exact lf h1 () leA
  replace h1 := ct h1
  refine tr tbk 1 (.mk ?_)
  refine sY (yv_to (y := .pt 1 v3 0 1) (yv_indexAddrA rfl Tryz.underlying80 sh3 rfl rfl rfl rfl rfl (by decide)) rfl) ?_
  refine tr tbk 2 (.mk ?_)
  refine sY (yv_to (y := .pt 2 v4 0 1) (yv_indexAddrA rfl Tryz.underlying80 sh3 rfl rfl rfl rfl rfl (by decide)) rfl) ?_
  refine tr tbk 1 (.mk ?_)
  refine nb tbk h1 fun x7 h1 => ?_
  refine tr tbk 2 (.mk ?_)
  cases x7
  replace h1 := cf h1
  refine tr tbk 19 (.mk ?_)
  exact lf h1 () leA
  replace h1 := ct h1
  refine tr tbk 1 (.mk ?_)
  refine sY (yv_to (y := .pt 1 v3 0 2) (yv_indexAddrA rfl Tryz.underlying80 sh3 rfl rfl rfl rfl rfl (by decide)) rfl) ?_
  refine tr tbk 2 (.mk ?_)
  refine sY (yv_to (y := .pt 2 v4 0 2) (yv_indexAddrA rfl Tryz.underlying80 sh3 rfl rfl rfl rfl rfl (by decide)) rfl) ?_
  refine tr tbk 1 (.mk ?_)
  refine nb tbk h1 fun x8 h1 => ?_
  refine tr tbk 2 (.mk ?_)
  cases x8
  replace h1 := cf h1
  refine tr tbk 10 (.mk ?_)
  exact lf h1 () leA
  replace h1 := ct h1
  refine tr tbk 1 (.mk ?_)
  refine sY (yv_to (y := .pt 1 v3 0 3) (yv_indexAddrA rfl Tryz.underlying80 sh3 rfl rfl rfl rfl rfl (by decide)) rfl) ?_
  refine tr tbk 2 (.mk ?_)
  refine sY (yv_to (y := .pt 2 v4 0 3) (yv_indexAddrA rfl Tryz.underlying80 sh3 rfl rfl rfl rfl rfl (by decide)) rfl) ?_
  refine tr tbk 1 (.mk ?_)
  refine nb tbk h1 fun x9 h1 => ?_
  refine tr tbk 3 (.mk ?_)
  exact lf h1 () leA
  rintro y0_1 _ h0
  obtain rfl := nxt_e h0
  refine wR hret (rT .nil) ?_
  exact .refl _
mutual
def d_ref14_sameEnt_L0 (a1 : GEnt) (a2 : GEnt) : Nat → Int → Option (Unit)
  | 0, _ => none
  | n + 1, y1_1 =>
    bnd (decide (y1_1 < (a1.Pools.length : Int))) fun x12 =>
    cond x12 ((ix a1.Pools y1_1).bind fun x13 =>
    (ix a2.Pools y1_1).bind fun x14 =>
    (d_ref11_Same n x13 x14).bind fun x15 =>
    bnd (!x15) fun x16 =>
    asrt (x16 = false) <|
    bnd (w64 (y1_1 + 1)) fun x17 =>
    d_ref14_sameEnt_L0 a1 a2 n (x17 : Int)) (some ())
def d_ref14_sameEnt_L1 (a1 : GEnt) (a2 : GEnt) : Nat → Int → Option (Unit)
  | 0, _ => none
  | n + 1, y3_1 =>
    bnd (decide (y3_1 < (a1.Rolls.length : Int))) fun x19 =>
    cond x19 ((ix a1.Rolls y3_1).bind fun x20 =>
    (d_ref14_Numbers x20).bind fun x21 =>
    (ix a2.Rolls y3_1).bind fun x22 =>
    (d_ref14_Numbers x22).bind fun x23 =>
    bnd (!decide ((x21 : A11_Int) = (x23 : A11_Int))) fun x24 =>
    asrt (x24 = false) <|
    bnd (w64 (y3_1 + 1)) fun x25 =>
    d_ref14_sameEnt_L1 a1 a2 n (x25 : Int)) (some ())
def d_ref14_sameEnt_L2 (a1 : GEnt) : Nat → Option (Unit)
  | 0 => none
  | n + 1 =>
    bnd (decide (0 < (a1.Ahead.length : Int))) fun x27 =>
    asrt (x27 = false) <|
    some ()
def d_ref14_sameEnt : Nat → GEnt → GEnt → Option (Bool)
  | 0, _, _ => none
  | n + 1, a1, a2 =>
    (show Option (Bool) from
    bnd (decide (a1.Now ≠ a2.Now)) fun x6 =>
    cond x6 (some (true : Bool)) (bnd (decide (a1.Closed ≠ a2.Closed)) fun x7 =>
    cond x7 (some (true : Bool)) (bnd (decide ((a1.Pools.length : Int) ≠ (a2.Pools.length : Int))) fun x8 =>
    cond x8 (some (true : Bool)) (bnd (decide ((a1.Rolls.length : Int) ≠ (a2.Rolls.length : Int))) fun x9 =>
    cond x9 (some (true : Bool)) (bnd (decide ((a1.Ahead.length : Int) ≠ (a2.Ahead.length : Int))) fun x10 =>
    some (x10 : Bool)))))).bind <| fun y0_1 =>
    asrt (y0_1 = false) <|
    (show Option (Unit) from
    d_ref14_sameEnt_L0 a1 a2 n (0 : Int)).bind <| fun _ =>
    (show Option (Unit) from
    d_ref14_sameEnt_L1 a1 a2 n (0 : Int)).bind <| fun _ =>
    (show Option (Unit) from
    d_ref14_sameEnt_L2 a1 n).bind <| fun _ =>
    (show Option (Bool) from
    (d_ref04_SameInts n a1.Bal a2.Bal).bind fun x29 =>
    cond x29 ((d_ref04_SameInts n a1.Prices a2.Prices).bind fun x30 =>
    cond x30 ((d_ref04_SameInts n a1.Down a2.Down).bind fun x31 =>
    some (x31 : Bool)) (some (false : Bool))) (some (false : Bool))).bind <| fun y7_1 =>
    some ((y7_1 : Bool))
end
theorem d_ref14_sameEnt_c {n : Nat} {a1 : GEnt} {a2 : GEnt} {r : Bool} (h0 : d_ref14_sameEnt n a1 a2 = some r) : PP Tryz.prog 28 [.agg [int a1.Now, boo a1.Closed, lst 4 GPool.av a1.Pools, lst 1 fI a1.Bal, lst 11 GRoll.av a1.Rolls, lst 1 fI a1.Prices, lst 1 fI a1.Down, lst 8 GEnt.av a1.Ahead], .agg [int a2.Now, boo a2.Closed, lst 4 GPool.av a2.Pools, lst 1 fI a2.Bal, lst 11 GRoll.av a2.Rolls, lst 1 fI a2.Prices, lst 1 fI a2.Down, lst 8 GEnt.av a2.Ahead]] (fun y => y = boo r) := by
  induction n using Nat.strongRecOn generalizing a1 a2 r with
  | ind n ih =>
    cases n with
    | zero => rw [d_ref14_sameEnt] at h0; cases h0
    | succ n =>
    have hN : n < n + 1 := Nat.lt_succ_self n
    rw [d_ref14_sameEnt] at h0
    refine pp_of_pc (R0 := fun y H => Cv (frzH H) y (boo r)) ?_ (fun y H hc => ⟨_, rfl, pvB r, hc⟩)
    refine pcw (c := _) Tryz.func28 rfl rfl ?_; intro Q hret hnorm
    refine tc tbk 2 (.mk ?_)
    refine sB 1 fun v3 => ?_
    refine sB 2 fun v4 => ?_
    refine tr tbk 4 (.mk ?_)
    refine jn h0 [2, 3, 4] [1, 2] (fun (a : Bool) (k : Unit) => [(46, boo a)]) (fun a k => []) ⟨fun j5 h1 => ?_, ?_⟩
    refine tc tbk 5 (.mk ?_)
    refine nb tbk h1 fun x6 h1 => ?_
    refine tr tbk 1 (.mk ?_)
    cases x6
    replace h1 := cf h1
    refine tr tbk 4 (.mk ?_)
    obtain ⟨x7, e7, h1⟩ := bnd_e h1
    refine sY (yv_to (y := boo x7) (yv_bneq rfl Tryz.underlying4 rfl rfl) (congrArg boo e7)) ?_
    refine tr tbk 2 (.mk ?_)
    cases x7
    replace h1 := cf h1
    refine tr tbk 2 (.mk ?_)
    refine sY (yv_len_sl rfl Tryz.underlying37 rfl (lst_len _)) ?_
    refine tr tbk 2 (.mk ?_)
    refine sY (yv_len_sl rfl Tryz.underlying37 rfl (lst_len _)) ?_
    refine nb tbk h1 fun x8 h1 => ?_
    refine tr tbk 2 (.mk ?_)
    cases x8
    replace h1 := cf h1
    refine tr tbk 2 (.mk ?_)
    refine sY (yv_len_sl rfl Tryz.underlying38 rfl (lst_len _)) ?_
    refine tr tbk 2 (.mk ?_)
    refine sY (yv_len_sl rfl Tryz.underlying38 rfl (lst_len _)) ?_
    refine nb tbk h1 fun x9 h1 => ?_
    refine tr tbk 2 (.mk ?_)
    cases x9
    replace h1 := cf h1
    refine tr tbk 2 (.mk ?_)
    refine sY (yv_len_sl rfl Tryz.underlying27 rfl (lst_len _)) ?_
    refine tr tbk 2 (.mk ?_)
    refine sY (yv_len_sl rfl Tryz.underlying27 rfl (lst_len _)) ?_
    refine nb tbk h1 fun x10 h1 => ?_
    refine tr tbk 2 (.mk ?_)
    exact lf h1 () leA
    replace h1 := ct h1
    refine tr tbk 9 (.mk ?_)
    exact lf h1 () leA
    replace h1 := ct h1
    refine tr tbk 18 (.mk ?_)
    exact lf h1 () leA
    replace h1 := ct h1
    refine tr tbk 27 (.mk ?_)
    exact lf h1 () leA
    replace h1 := ct h1
    refine tr tbk 34 (.mk ?_)
    exact lf h1 () leA
    rintro y0_1 _ h0
    replace h0 := asrt_e h0
    obtain ⟨rfl, h0⟩ := h0
    refine tc tbk 7 (.mk ?_)
    refine jn h0 [2, 3, 4] [1, 2] (fun (a : Unit) (k : Unit) => []) (fun a k => []) ⟨fun j11 h1 => ?_, ?_⟩
    refine tc tbk 1 (.mk ?_)
    refine lp (fun n (a : Int) => d_ref14_sameEnt_L0 a1 a2 n a) (0 : Int) () h1 [2, 3, 4] [1, 2] (fun (a : Int) (k : Unit) => [(5, int a)]) (fun a k => []) (fun _ => rfl) ⟨leA, ?_⟩
    rintro n y1_1 _ hm h1
    replace h1 : d_ref14_sameEnt_L0 a1 a2 (n + 1) y1_1 = some _ := h1
    replace hN := Nat.lt_trans (Nat.lt_of_succ_le hm) hN
    rw [d_ref14_sameEnt_L0] at h1
    refine tc tbk 6 (.mk ?_)
    refine sY (yv_len_sl rfl Tryz.underlying37 rfl (lst_len _)) ?_
    refine nb tbk h1 fun x12 h1 => ?_
    refine tr tbk 1 (.mk ?_)
    cases x12
    replace h1 := cf h1
    refine tc tbk 2 (.mk ?_)
    exact lf h1 () leA
    replace h1 := ct h1
    refine tc tbk 5 (.mk ?_)
    refine c_drawE [0, 1, 0, 7, 15, 0, 32, 0, 224, 480, 1023, 2047] (fun i => bif Nat.beq i 0 then ([1]) else bif Nat.beq i 1 then ([1]) else bif Nat.beq i 5 then ([2]) else bif Nat.beq i 6 then ([2]) else []) (fun i => [1, 2]) (fun i => true) [0, 1, 2, 3, 4, 5, 6, 7, 8, 9, 10, 11] mixed (by kernel_rfl) ?_; intro K hK
    refine de_pure rfl rfl rfl rfl (fun H hH => yv_fieldAddr rfl fo40_2 rfl (.pt ((hH _ (by decide)).trans rfl) rfl rfl) (.pt _ _ _ _ _)) ?_
    refine de_pure rfl rfl rfl rfl (fun H hH => yv_load rfl sh37 rfl (.pt ((hH _ (by decide)).trans rfl) rfl rfl) rfl) ?_
    refine de_pure rfl rfl rfl rfl (fun H hH => yv_move rfl rfl) ?_
    obtain ⟨x13, e13, h1⟩ := bind_e h1
    refine de_pure rfl rfl rfl rfl (fun H hH => yv_ixT rfl Tryz.underlying37 sh82 rfl rfl e13) ?_
    refine de_pure rfl rfl rfl rfl (fun H hH => yv_load rfl sh82 rfl (.pp _) rfl) ?_
    refine de_pure rfl rfl rfl rfl (fun H hH => yv_fieldAddr rfl fo40_2 rfl (.pt ((hH _ (by decide)).trans rfl) rfl rfl) (.pt _ _ _ _ _)) ?_
    refine de_pure rfl rfl rfl rfl (fun H hH => yv_load rfl sh37 rfl (.pt ((hH _ (by decide)).trans rfl) rfl rfl) rfl) ?_
    refine de_pure rfl rfl rfl rfl (fun H hH => yv_move rfl rfl) ?_
    obtain ⟨x14, e14, h1⟩ := bind_e h1
    refine de_pure rfl rfl rfl rfl (fun H hH => yv_ixT rfl Tryz.underlying37 sh82 rfl rfl e14) ?_
    refine de_pure rfl rfl rfl rfl (fun H hH => yv_load rfl sh82 rfl (.pp _) rfl) ?_
    obtain ⟨x15, e15, h1⟩ := bind_e h1
    refine de_pure rfl rfl rfl rfl (fun H hH => yv_callP rfl rfl (.cons rfl (.cons rfl .nil)) cal52 (CvL.refl _) (d_ref11_Same_c e15)) ?_
    obtain ⟨x16, e16, h1⟩ := bnd_e h1
    refine de_pure rfl rfl rfl rfl (fun H hH => yv_not rfl rfl e16) ?_
    refine de_nil (hK _ ?_)
    replace h1 := asrt_e h1
    obtain ⟨rfl, h1⟩ := h1
    refine tc tbk 5 (.mk ?_)
    refine ni tbk h1 fun x17 h1 => ?_
    refine tr tbk 2 (.mk ?_)
    exact bk x17 () h1 leA
    rintro _ _ h0
    refine tc tbk 5 (.mk ?_)
    refine jn h0 [2, 3, 4] [1, 2] (fun (a : Unit) (k : Unit) => []) (fun a k => []) ⟨fun j18 h1 => ?_, ?_⟩
    refine tc tbk 1 (.mk ?_)
    refine lp (fun n (a : Int) => d_ref14_sameEnt_L1 a1 a2 n a) (0 : Int) () h1 [2, 3, 4] [1, 2] (fun (a : Int) (k : Unit) => [(6, int a)]) (fun a k => []) (fun _ => rfl) ⟨leA, ?_⟩
    rintro n y3_1 _ hm h1
    replace h1 : d_ref14_sameEnt_L1 a1 a2 (n + 1) y3_1 = some _ := h1
    replace hN := Nat.lt_trans (Nat.lt_of_succ_le hm) hN
    rw [d_ref14_sameEnt_L1] at h1
    refine tc tbk 6 (.mk ?_)
    refine sY (yv_len_sl rfl Tryz.underlying38 rfl (lst_len _)) ?_
    refine nb tbk h1 fun x19 h1 => ?_
    refine tr tbk 1 (.mk ?_)
    cases x19
    replace h1 := cf h1
    refine tc tbk 2 (.mk ?_)
    exact lf h1 () leA
    replace h1 := ct h1
    refine tc tbk 5 (.mk ?_)
    refine c_drawE [0, 1, 0, 7, 15, 31, 0, 64, 0, 448, 960, 2047, 4095] (fun i => bif Nat.beq i 0 then ([1]) else bif Nat.beq i 1 then ([1]) else bif Nat.beq i 6 then ([2]) else bif Nat.beq i 7 then ([2]) else []) (fun i => [1, 2]) (fun i => true) [0, 1, 2, 3, 4, 5, 6, 7, 8, 9, 10, 11, 12] mixed (by kernel_rfl) ?_; intro K hK
    refine de_pure rfl rfl rfl rfl (fun H hH => yv_fieldAddr rfl fo40_4 rfl (.pt ((hH _ (by decide)).trans rfl) rfl rfl) (.pt _ _ _ _ _)) ?_
    refine de_pure rfl rfl rfl rfl (fun H hH => yv_load rfl sh38 rfl (.pt ((hH _ (by decide)).trans rfl) rfl rfl) rfl) ?_
    refine de_pure rfl rfl rfl rfl (fun H hH => yv_move rfl rfl) ?_
    obtain ⟨x20, e20, h1⟩ := bind_e h1
    refine de_pure rfl rfl rfl rfl (fun H hH => yv_ixT rfl Tryz.underlying38 sh67 rfl rfl e20) ?_
    refine de_pure rfl rfl rfl rfl (fun H hH => yv_load rfl sh67 rfl (.pp _) rfl) ?_
    obtain ⟨x21, e21, h1⟩ := bind_e h1
    refine de_pure rfl rfl rfl rfl (fun H hH => yv_callP rfl rfl (.cons rfl .nil) cal53 (CvL.refl _) (d_ref14_Numbers_c e21)) ?_
    refine de_pure rfl rfl rfl rfl (fun H hH => yv_fieldAddr rfl fo40_4 rfl (.pt ((hH _ (by decide)).trans rfl) rfl rfl) (.pt _ _ _ _ _)) ?_
    refine de_pure rfl rfl rfl rfl (fun H hH => yv_load rfl sh38 rfl (.pt ((hH _ (by decide)).trans rfl) rfl rfl) rfl) ?_
    refine de_pure rfl rfl rfl rfl (fun H hH => yv_move rfl rfl) ?_
    obtain ⟨x22, e22, h1⟩ := bind_e h1
    refine de_pure rfl rfl rfl rfl (fun H hH => yv_ixT rfl Tryz.underlying38 sh67 rfl rfl e22) ?_
    refine de_pure rfl rfl rfl rfl (fun H hH => yv_load rfl sh67 rfl (.pp _) rfl) ?_
    obtain ⟨x23, e23, h1⟩ := bind_e h1
    refine de_pure rfl rfl rfl rfl (fun H hH => yv_callP rfl rfl (.cons rfl .nil) cal53 (CvL.refl _) (d_ref14_Numbers_c e23)) ?_
    obtain ⟨x24, e24, h1⟩ := bnd_e h1
    refine de_pure rfl rfl rfl rfl (fun H hH => yv_arneq (r' := x24) rfl Tryz.underlying108 sz3 c3 (by decide) rfl rfl (.cons (.int Tryz.underlying3) sh3 (.cons (.int Tryz.underlying3) sh3 (.cons (.int Tryz.underlying3) sh3 (.cons (.int Tryz.underlying3) sh3 (.cons (.int Tryz.underlying3) sh3 (.cons (.int Tryz.underlying3) sh3 (.cons (.int Tryz.underlying3) sh3 (.cons (.int Tryz.underlying3) sh3 (.cons (.int Tryz.underlying3) sh3 (.cons (.int Tryz.underlying3) sh3 (.cons (.int Tryz.underlying3) sh3 (.nil _)))))))))))) ((congrArg Bool.not (A11_Int.eqv (x21 : A11_Int) (x23 : A11_Int))).trans e24)) ?_
    refine de_nil (hK _ ?_)
    replace h1 := asrt_e h1
    obtain ⟨rfl, h1⟩ := h1
    refine tc tbk 5 (.mk ?_)
    refine ni tbk h1 fun x25 h1 => ?_
    refine tr tbk 2 (.mk ?_)
    exact bk x25 () h1 leA
    rintro _ _ h0
    refine tc tbk 5 (.mk ?_)
    refine jn h0 [2, 3, 4] [1, 2] (fun (a : Unit) (k : Unit) => []) (fun a k => []) ⟨fun j26 h1 => ?_, ?_⟩
    refine tc tbk 1 (.mk ?_)
    refine lp (fun n (a : Unit) => d_ref14_sameEnt_L2 a1 n) () () h1 [2, 3, 4, 7] [1, 2] (fun (a : Unit) (k : Unit) => []) (fun a k => []) (fun _ => rfl) ⟨leA, ?_⟩
    rintro n _ _ hm h1
    replace h1 : d_ref14_sameEnt_L2 a1 (n + 1) = some _ := h1
    replace hN := Nat.lt_trans (Nat.lt_of_succ_le hm) hN
    rw [d_ref14_sameEnt_L2] at h1
    refine tc tbk 6 (.mk ?_)
    refine sY (yv_len_sl rfl Tryz.underlying27 rfl (lst_len _)) ?_
    refine nb tbk h1 fun x27 h1 => ?_
    refine tr tbk 1 (.mk ?_)
    replace h1 := asrt_e h1
    obtain ⟨rfl, h1⟩ := h1
    refine tc tbk 2 (.mk ?_)
    exact lf h1 () leA
    rintro _ _ h0
    refine tc tbk 1 (.mk ?_)
    refine jn h0 [] [] (fun (a : Bool) (k : Unit) => [(4, boo a)]) (fun a k => []) ⟨fun j28 h1 => ?_, ?_⟩
    refine tc tbk 5 (.mk ?_)
    obtain ⟨x29, e29, h1⟩ := bind_e h1
    refine sC cal50 (d_ref04_SameInts_c e29) ?_
    refine tr tbk 1 (.mk ?_)
    cases x29
    replace h1 := cf h1
    refine tr tbk 15 (.mk ?_)
    exact lf h1 () leA
    replace h1 := ct h1
    refine tr tbk 4 (.mk ?_)
    obtain ⟨x30, e30, h1⟩ := bind_e h1
    refine sC cal50 (d_ref04_SameInts_c e30) ?_
    refine tr tbk 2 (.mk ?_)
    cases x30
    replace h1 := cf h1
    refine tr tbk 8 (.mk ?_)
    exact lf h1 () leA
    replace h1 := ct h1
    refine tr tbk 4 (.mk ?_)
    obtain ⟨x31, e31, h1⟩ := bind_e h1
    refine sC cal50 (d_ref04_SameInts_c e31) ?_
    refine tr tbk 3 (.mk ?_)
    exact lf h1 () leA
    rintro y7_1 _ h0
    obtain rfl := nxt_e h0
    refine wR hret (rT .nil) ?_
    exact .refl _
def d_ref14_Same_L0 (a1 : GState) (a2 : GState) : Nat → Int → Option (Unit)
  | 0, _ => none
  | n + 1, y1_1 =>
    bnd (decide (y1_1 < (a1.Ents.length : Int))) fun x13 =>
    cond x13 ((ix a1.Ents y1_1).bind fun x14 =>
    (ix a2.Ents y1_1).bind fun x15 =>
    (d_ref14_sameEnt n x14 x15).bind fun x16 =>
    bnd (!x16) fun x17 =>
    asrt (x17 = false) <|
    bnd (w64 (y1_1 + 1)) fun x18 =>
    d_ref14_Same_L0 a1 a2 n (x18 : Int)) (some ())
def d_ref14_Same (n : Nat) (a1 : GState) (a2 : GState) : Option (Bool) :=
(show Option (Bool) from
(d_ref04_Same n a1.Master a2.Master).bind fun x6 =>
bnd (!x6) fun x7 =>
cond x7 (some (true : Bool)) (bnd (decide ((a1.Ents.length : Int) ≠ (a2.Ents.length : Int))) fun x8 =>
cond x8 (some (true : Bool)) (bnd (decide (a1.Done ≠ a2.Done)) fun x9 =>
cond x9 (some (true : Bool)) ((d_ref14_samePapers n a1 a2).bind fun x10 =>
bnd (!x10) fun x11 =>
some (x11 : Bool))))).bind <| fun y0_1 =>
asrt (y0_1 = false) <|
(show Option (Unit) from
d_ref14_Same_L0 a1 a2 n (0 : Int)).bind <| fun _ =>
some ((true : Bool))
theorem d_ref14_Same_c {n : Nat} {a1 : GState} {a2 : GState} {r : Bool} (h0 : d_ref14_Same n a1 a2 = some r) : PP Tryz.prog 9 [.agg (GState.av a1), .agg (GState.av a2)] (fun y => y = boo r) := by
  unfold d_ref14_Same at h0
  refine pp_of_pc (R0 := fun y H => Cv (frzH H) y (boo r)) ?_ (fun y H hc => ⟨_, rfl, pvB r, hc⟩)
  refine pcw (c := _) Tryz.func9 rfl rfl ?_; intro Q hret hnorm
  refine tc tbk 2 (.mk ?_)
  refine sB 1 fun v3 => ?_
  refine sB 2 fun v4 => ?_
  refine tr tbk 4 (.mk ?_)
  refine jn h0 [2, 3, 4] [1, 2] (fun (a : Bool) (k : Unit) => [(33, boo a)]) (fun a k => []) ⟨fun j5 h1 => ?_, ?_⟩
  refine tc tbk 5 (.mk ?_)
  obtain ⟨x6, e6, h1⟩ := bind_e h1
  refine sC cal26 (d_ref04_Same_c e6) ?_
  refine nb tbk h1 fun x7 h1 => ?_
  refine tr tbk 1 (.mk ?_)
  cases x7
  replace h1 := cf h1
  refine tr tbk 2 (.mk ?_)
  refine sY (yv_len_sl rfl Tryz.underlying27 rfl (lst_len _)) ?_
  refine tr tbk 2 (.mk ?_)
  refine sY (yv_len_sl rfl Tryz.underlying27 rfl (lst_len _)) ?_
  refine nb tbk h1 fun x8 h1 => ?_
  refine tr tbk 2 (.mk ?_)
  cases x8
  replace h1 := cf h1
  refine tr tbk 4 (.mk ?_)
  refine nb tbk h1 fun x9 h1 => ?_
  refine tr tbk 2 (.mk ?_)
  cases x9
  replace h1 := cf h1
  refine tr tbk 2 (.mk ?_)
  obtain ⟨x10, e10, h1⟩ := bind_e h1
  refine sC cal27 (d_ref14_samePapers_c e10) ?_
  refine nb tbk h1 fun x11 h1 => ?_
  refine tr tbk 2 (.mk ?_)
  exact lf h1 () leA
  replace h1 := ct h1
  refine tr tbk 6 (.mk ?_)
  exact lf h1 () leA
  replace h1 := ct h1
  refine tr tbk 13 (.mk ?_)
  exact lf h1 () leA
  replace h1 := ct h1
  refine tr tbk 22 (.mk ?_)
  exact lf h1 () leA
  rintro y0_1 _ h0
  replace h0 := asrt_e h0
  obtain ⟨rfl, h0⟩ := h0
  refine tc tbk 7 (.mk ?_)
  refine jn h0 [4] [] (fun (a : Unit) (k : Unit) => []) (fun a k => []) ⟨fun j12 h1 => ?_, ?_⟩
  refine tc tbk 1 (.mk ?_)
  refine lp (fun n (a : Int) => d_ref14_Same_L0 a1 a2 n a) (0 : Int) () h1 [2, 3, 4] [1, 2] (fun (a : Int) (k : Unit) => [(5, int a)]) (fun a k => []) (fun _ => rfl) ⟨leA, ?_⟩
  rintro n y1_1 _ hm h1
  replace h1 : d_ref14_Same_L0 a1 a2 (n + 1) y1_1 = some _ := h1
  rw [d_ref14_Same_L0] at h1
  refine tc tbk 6 (.mk ?_)
  refine sY (yv_len_sl rfl Tryz.underlying27 rfl (lst_len _)) ?_
  refine nb tbk h1 fun x13 h1 => ?_
  refine tr tbk 1 (.mk ?_)
  cases x13
  replace h1 := cf h1
  refine tc tbk 2 (.mk ?_)
  exact lf h1 () leA
  replace h1 := ct h1
  refine tc tbk 5 (.mk ?_)
  refine c_drawE [0, 1, 0, 7, 15, 0, 32, 0, 224, 480, 1023, 2047] (rl [(0, [1]), (1, [1]), (5, [2]), (6, [2])] []) (fun i => [1, 2]) (fun i => true) [0, 1, 2, 3, 4, 5, 6, 7, 8, 9, 10, 11] mixed (by kernel_rfl) ?_; intro K hK
  refine eF fo32_1 ?_
  refine eL sh27 ?_
  refine eM ?_
  obtain ⟨x14, e14, h1⟩ := bind_e h1
  refine eP (fun H hH => yv_to (y := .pp [int x14.Now, boo x14.Closed, lst 4 GPool.av x14.Pools, lst 1 fI x14.Bal, lst 11 GRoll.av x14.Rolls, lst 1 fI x14.Prices, lst 1 fI x14.Down, lst 8 GEnt.av x14.Ahead]) (yv_ixT rfl Tryz.underlying27 sh40 rfl rfl e14) (congrArg AV.pp (GEnt.av_eq x14))) ?_
  refine eP (fun H hH => yv_load rfl sh40 rfl (.pp _) rfl) ?_
  refine eF fo32_1 ?_
  refine eL sh27 ?_
  refine eM ?_
  obtain ⟨x15, e15, h1⟩ := bind_e h1
  refine eP (fun H hH => yv_to (y := .pp [int x15.Now, boo x15.Closed, lst 4 GPool.av x15.Pools, lst 1 fI x15.Bal, lst 11 GRoll.av x15.Rolls, lst 1 fI x15.Prices, lst 1 fI x15.Down, lst 8 GEnt.av x15.Ahead]) (yv_ixT rfl Tryz.underlying27 sh40 rfl rfl e15) (congrArg AV.pp (GEnt.av_eq x15))) ?_
  refine eP (fun H hH => yv_load rfl sh40 rfl (.pp _) rfl) ?_
  obtain ⟨x16, e16, h1⟩ := bind_e h1
  refine eP (fun H hH => yv_callP rfl rfl (.cons rfl (.cons rfl .nil)) cal28 (CvL.refl _) (d_ref14_sameEnt_c e16)) ?_
  obtain ⟨x17, e17, h1⟩ := bnd_e h1
  refine eP (fun H hH => yv_not rfl rfl e17) ?_
  refine de_nil (hK _ ?_)
  replace h1 := asrt_e h1
  obtain ⟨rfl, h1⟩ := h1
  refine tc tbk 5 (.mk ?_)
  refine ni tbk h1 fun x18 h1 => ?_
  refine tr tbk 2 (.mk ?_)
  exact bk x18 () h1 leA
  rintro _ _ h0
  refine tc tbk 4 (.mk ?_)
  obtain rfl := nxt_e h0
  refine wR hret (rT .nil) ?_
  exact .refl _
def d_law16_awake (n : Nat)  : Option (Bool) :=
(d_law16_stocked n 0 10 100).bind fun x1 =>
(d_sell_Do n (⟨x1.Master, x1.Ents, x1.Receipts, [], x1.Transits, x1.Done⟩ : GState) (⟨4, 0, 0, 0, 0, 3, 50, 0, []⟩ : GOp)).bind fun x2 =>
(d_sell_Do n x2.1 (⟨5, 0, 0, 0, 0, 3, 50, 0, []⟩ : GOp)).bind fun x4 =>
(d_sell_Do n x2.1 (⟨6, 0, 0, 0, 0, 1, 0, 0, []⟩ : GOp)).bind fun x6 =>
(show Option (Bool) from
bnd (decide (x2.2 = 0)) fun x9 =>
cond x9 (bnd (decide (x4.2 = 0)) fun x10 =>
cond x10 (bnd (decide (x6.2 = 1)) fun x11 =>
cond x11 (bnd (decide ((x2.1.Sales.length : Int) = 1)) fun x12 =>
cond x12 ((ix x2.1.Sales 0).bind fun x13 =>
bnd (decide (x13.Cost = 30)) fun x14 =>
cond x14 (bnd (decide ((x4.1.Ents.length : Int) = 2)) fun x15 =>
cond x15 ((ix x4.1.Ents 0).bind fun x16 =>
(ix x16.Bal 5).bind fun x17 =>
bnd (decide (x17 = 0)) fun x18 =>
cond x18 ((ix x4.1.Ents 0).bind fun x19 =>
(ix x19.Bal 0).bind fun x20 =>
bnd (decide (x20 = 100)) fun x21 =>
some (x21 : Bool)) (some (false : Bool))) (some (false : Bool))) (some (false : Bool))) (some (false : Bool))) (some (false : Bool))) (some (false : Bool))) (some (false : Bool))).bind <| fun y0_1 =>
some ((y0_1 : Bool))
theorem d_law16_awake_c {n : Nat}  {r : Bool} (h0 : d_law16_awake n  = some r) : PP Tryz.prog 14 [] (fun y => y = boo r) := by
  unfold d_law16_awake at h0
  refine pp_of_pc (R0 := fun y H => Cv (frzH H) y (boo r)) ?_ (fun y H hc => ⟨_, rfl, pvB r, hc⟩)
  refine pcw (c := _) Tryz.func14 rfl rfl ?_; intro Q hret hnorm
  refine tc tbk 6 (.mk ?_)
  obtain ⟨x1, e1, h0⟩ := bind_e h0
  refine sC cal12 (d_law16_stocked_c e1) ?_
  refine sY (yv_build (cs := [int 4, int 0, int 0, int 0, int 0, int 3, int 50, int 0, .sc (.slice none 0 0)]) (ps := [(0, _), (5, _), (6, _)]) rfl pl35 z35 rfl (.cons rfl (.cons rfl (.cons rfl .nil))) (by kernel_rfl)) ?_
  obtain ⟨x2, e2, h0⟩ := bind_e h0
  refine sY (yv_callP rfl rfl (.cons rfl (.cons rfl .nil)) cal13 (.cons (CvL.agg (.cons (.refl _) (.cons (.refl _) (.cons (.refl _) (.cons (.refl _) (.cons (.refl _) (.cons (.refl _) (.cons (.refl _) (.cons (.nil _) (.cons (.refl _) (.cons (.refl _) .nil))))))))))) (.cons (CvL.agg (.cons (.refl _) (.cons (.refl _) (.cons (.refl _) (.cons (.refl _) (.cons (.refl _) (.cons (.refl _) (.cons (.refl _) (.cons (.refl _) (.cons (.nil _) .nil)))))))))) .nil)) (d_sell_Do_c e2)) ?_
  refine tr tbk 3 (.mk ?_)
  refine sA 1 z32 fun v3 => ?_
  refine sS ⟨32, 10, true, true, v3, [(GState.av x2.1)]⟩ sh32 ?_
  refine tr tbk 5 (.mk ?_)
  refine sY (yv_build (cs := [int 5, int 0, int 0, int 0, int 0, int 3, int 50, int 0, .sc (.slice none 0 0)]) (ps := [(0, _), (5, _), (6, _)]) rfl pl35 z35 rfl (.cons rfl (.cons rfl (.cons rfl .nil))) (by kernel_rfl)) ?_
  obtain ⟨x4, e4, h0⟩ := bind_e h0
  refine sY (yv_callP rfl rfl (.cons rfl (.cons rfl .nil)) cal13 (.cons (.refl _) (.cons (CvL.agg (.cons (.refl _) (.cons (.refl _) (.cons (.refl _) (.cons (.refl _) (.cons (.refl _) (.cons (.refl _) (.cons (.refl _) (.cons (.refl _) (.cons (.nil _) .nil)))))))))) .nil)) (d_sell_Do_c e4)) ?_
  refine tr tbk 3 (.mk ?_)
  refine sA 2 z32 fun v5 => ?_
  refine sS ⟨32, 10, true, true, v5, [(GState.av x4.1)]⟩ sh32 ?_
  refine tr tbk 5 (.mk ?_)
  refine sY (yv_build (cs := [int 6, int 0, int 0, int 0, int 0, int 1, int 0, int 0, .sc (.slice none 0 0)]) (ps := [(0, _), (5, _)]) rfl pl35 z35 rfl (.cons rfl (.cons rfl .nil)) (by kernel_rfl)) ?_
  obtain ⟨x6, e6, h0⟩ := bind_e h0
  refine sY (yv_callP rfl rfl (.cons rfl (.cons rfl .nil)) cal13 (.cons (.refl _) (.cons (CvL.agg (.cons (.refl _) (.cons (.refl _) (.cons (.refl _) (.cons (.refl _) (.cons (.refl _) (.cons (.refl _) (.cons (.refl _) (.cons (.refl _) (.cons (.nil _) .nil)))))))))) .nil)) (d_sell_Do_c e6)) ?_
  refine tr tbk 3 (.mk ?_)
  refine sA 3 z32 fun v7 => ?_
  refine sS ⟨32, 10, true, true, v7, [(GState.av x6.1)]⟩ sh32 ?_
  refine tr tbk 3 (.mk ?_)
  refine jn h0 [] [] (fun (a : Bool) (k : Unit) => [(0, boo a)]) (fun a k => []) ⟨fun j8 h1 => ?_, ?_⟩
  refine tc tbk 2 (.mk ?_)
  refine nb tbk h1 fun x9 h1 => ?_
  refine tr tbk 1 (.mk ?_)
  cases x9
  replace h1 := cf h1
  refine tr tbk 49 (.mk ?_)
  exact lf h1 () leA
  replace h1 := ct h1
  refine tr tbk 1 (.mk ?_)
  refine nb tbk h1 fun x10 h1 => ?_
  refine tr tbk 2 (.mk ?_)
  cases x10
  replace h1 := cf h1
  refine tr tbk 45 (.mk ?_)
  exact lf h1 () leA
  replace h1 := ct h1
  refine tr tbk 1 (.mk ?_)
  refine nb tbk h1 fun x11 h1 => ?_
  refine tr tbk 2 (.mk ?_)
  cases x11
  replace h1 := cf h1
  refine tr tbk 41 (.mk ?_)
  exact lf h1 () leA
  replace h1 := ct h1
  refine tr tbk 2 (.mk ?_)
  refine sY (yv_len_sl rfl Tryz.underlying29 rfl (lst_len _)) ?_
  refine nb tbk h1 fun x12 h1 => ?_
  refine tr tbk 2 (.mk ?_)
  cases x12
  replace h1 := cf h1
  refine tr tbk 35 (.mk ?_)
  exact lf h1 () leA
  replace h1 := ct h1
  refine tr tbk 2 (.mk ?_)
  obtain ⟨x13, e13, h1⟩ := bind_e h1
  refine sY (yv_ixT rfl Tryz.underlying29 sh54 rfl rfl e13) ?_
  refine tr tbk 2 (.mk ?_)
  refine nb tbk h1 fun x14 h1 => ?_
  refine tr tbk 2 (.mk ?_)
  cases x14
  replace h1 := cf h1
  refine tr tbk 27 (.mk ?_)
  exact lf h1 () leA
  replace h1 := ct h1
  refine tr tbk 2 (.mk ?_)
  refine sY (yv_len_sl rfl Tryz.underlying27 rfl (lst_len _)) ?_
  refine nb tbk h1 fun x15 h1 => ?_
  refine tr tbk 2 (.mk ?_)
  cases x15
  replace h1 := cf h1
  refine tr tbk 21 (.mk ?_)
  exact lf h1 () leA
  replace h1 := ct h1
  refine tr tbk 2 (.mk ?_)
  obtain ⟨x16, e16, h1⟩ := bind_e h1
  refine sY (yv_to (y := .pp [int x16.Now, boo x16.Closed, lst 4 GPool.av x16.Pools, lst 1 fI x16.Bal, lst 11 GRoll.av x16.Rolls, lst 1 fI x16.Prices, lst 1 fI x16.Down, lst 8 GEnt.av x16.Ahead]) (yv_ixT rfl Tryz.underlying27 sh40 rfl rfl e16) (congrArg AV.pp (GEnt.av_eq x16))) ?_
  refine tr tbk 2 (.mk ?_)
  obtain ⟨x17, e17, h1⟩ := bind_e h1
  refine sY (yv_ixT rfl Tryz.underlying23 sh3 rfl rfl e17) ?_
  refine tr tbk 1 (.mk ?_)
  refine nb tbk h1 fun x18 h1 => ?_
  refine tr tbk 2 (.mk ?_)
  cases x18
  replace h1 := cf h1
  refine tr tbk 11 (.mk ?_)
  exact lf h1 () leA
  replace h1 := ct h1
  refine tr tbk 2 (.mk ?_)
  obtain ⟨x19, e19, h1⟩ := bind_e h1
  refine sY (yv_to (y := .pp [int x19.Now, boo x19.Closed, lst 4 GPool.av x19.Pools, lst 1 fI x19.Bal, lst 11 GRoll.av x19.Rolls, lst 1 fI x19.Prices, lst 1 fI x19.Down, lst 8 GEnt.av x19.Ahead]) (yv_ixT rfl Tryz.underlying27 sh40 rfl rfl e19) (congrArg AV.pp (GEnt.av_eq x19))) ?_
  refine tr tbk 2 (.mk ?_)
  obtain ⟨x20, e20, h1⟩ := bind_e h1
  refine sY (yv_ixT rfl Tryz.underlying23 sh3 rfl rfl e20) ?_
  refine tr tbk 1 (.mk ?_)
  refine nb tbk h1 fun x21 h1 => ?_
  refine tr tbk 3 (.mk ?_)
  exact lf h1 () leA
  rintro y0_1 _ h0
  obtain rfl := nxt_e h0
  refine wR hret (rT .nil) ?_
  exact .refl _
def d_law16_SellErrors_L0 : Nat → Int → (List GSale) → Option ((List GSale))
  | 0, _, _ => none
  | n + 1, y0_1, y0_3 =>
    bnd (decide (y0_1 < 40)) fun x35 =>
    cond x35 (bnd (y0_3 ++ ([(⟨0, 0, 0, 0, 0, 0, 0, 1, false⟩ : GSale)] : List GSale)) fun x36 =>
    asrt (x36.length ≤ 68719476736) <|
    bnd (w64 (y0_1 + 1)) fun x39 =>
    d_law16_SellErrors_L0 n (x39 : Int) (x36 : List GSale)) (some (y0_3 : List GSale))
def d_law16_SellErrors (n : Nat) (a1 : Int) (a2 : Int) : Option (Bool) :=
(d_law00_Place a2 20).bind fun x3 =>
bnd (w64 (1 + x3)) fun x4 =>
(d_law16_stocked n 1 5 50).bind fun x5 =>
bnd (w64 (5 + x4)) fun x7 =>
(d_law00_Place a1 6).bind fun x9 =>
bnd (decide (x9 = 1)) fun x10 =>
cond x10 ((d_sell_Do n (⟨x5.Master, x5.Ents, x5.Receipts, [], x5.Transits, x5.Done⟩ : GState) (⟨4, 0, 1, 1, 0, x4, 0, 0, []⟩ : GOp)).bind fun x52 =>
(show Option (Bool) from
bnd (decide (x52.2 = 5)) fun x55 =>
cond x55 ((d_ref14_Same n (⟨x5.Master, x5.Ents, x5.Receipts, [], x5.Transits, x5.Done⟩ : GState) x52.1).bind fun x56 =>
cond x56 ((d_law16_awake n).bind fun x57 =>
some (x57 : Bool)) (some (false : Bool))) (some (false : Bool))).bind <| fun y2_1 =>
some ((y2_1 : Bool))) (bnd (decide (x9 = 2)) fun x11 =>
cond x11 ((d_sell_Do n (⟨x5.Master, x5.Ents, x5.Receipts, [], x5.Transits, x5.Done⟩ : GState) (⟨5, 0, 0, 0, 0, 1, 0, x4, []⟩ : GOp)).bind fun x46 =>
(show Option (Bool) from
bnd (decide (x46.2 = 4)) fun x49 =>
cond x49 ((d_ref14_Same n (⟨x5.Master, x5.Ents, x5.Receipts, [], x5.Transits, x5.Done⟩ : GState) x46.1).bind fun x50 =>
cond x50 ((d_law16_awake n).bind fun x51 =>
some (x51 : Bool)) (some (false : Bool))) (some (false : Bool))).bind <| fun y2_1 =>
some ((y2_1 : Bool))) (bnd (decide (x9 = 3)) fun x12 =>
cond x12 ((show Option ((List GSale)) from
d_law16_SellErrors_L0 n (0 : Int) (([] : List GSale) : List GSale)).bind <| fun y1_2 =>
(d_sell_Do n (⟨x5.Master, x5.Ents, x5.Receipts, y1_2, x5.Transits, x5.Done⟩ : GState) (⟨4, 0, 1, 0, 0, 1, 0, 0, []⟩ : GOp)).bind fun x40 =>
(show Option (Bool) from
bnd (decide (x40.2 = 6)) fun x43 =>
cond x43 ((d_ref14_Same n (⟨x5.Master, x5.Ents, x5.Receipts, y1_2, x5.Transits, x5.Done⟩ : GState) x40.1).bind fun x44 =>
cond x44 ((d_law16_awake n).bind fun x45 =>
some (x45 : Bool)) (some (false : Bool))) (some (false : Bool))).bind <| fun y2_1 =>
some ((y2_1 : Bool))) (bnd (decide (x9 = 4)) fun x13 =>
cond x13 ((d_sell_Do n (⟨x5.Master, x5.Ents, x5.Receipts, ([(⟨0, 1, 0, 3, 3, 0, 0, 1, false⟩ : GSale)] : List GSale), x5.Transits, x5.Done⟩ : GState) (⟨5, 0, 0, 0, 0, x4, 0, 0, []⟩ : GOp)).bind fun x27 =>
(show Option (Bool) from
bnd (decide (x27.2 = 5)) fun x30 =>
cond x30 ((d_ref14_Same n (⟨x5.Master, x5.Ents, x5.Receipts, ([(⟨0, 1, 0, 3, 3, 0, 0, 1, false⟩ : GSale)] : List GSale), x5.Transits, x5.Done⟩ : GState) x27.1).bind fun x31 =>
cond x31 ((d_law16_awake n).bind fun x32 =>
some (x32 : Bool)) (some (false : Bool))) (some (false : Bool))).bind <| fun y2_1 =>
some ((y2_1 : Bool))) (bnd (decide (x9 = 5)) fun x14 =>
cond x14 ((d_sell_Do n (⟨x5.Master, x5.Ents, x5.Receipts, [], x5.Transits, x5.Done⟩ : GState) (⟨4, 2, 1, 0, 0, x4, 0, 0, []⟩ : GOp)).bind fun x21 =>
(show Option (Bool) from
bnd (decide (x21.2 = 4)) fun x24 =>
cond x24 ((d_ref14_Same n (⟨x5.Master, x5.Ents, x5.Receipts, [], x5.Transits, x5.Done⟩ : GState) x21.1).bind fun x25 =>
cond x25 ((d_law16_awake n).bind fun x26 =>
some (x26 : Bool)) (some (false : Bool))) (some (false : Bool))).bind <| fun y2_1 =>
some ((y2_1 : Bool))) ((d_sell_Do n (⟨x5.Master, x5.Ents, x5.Receipts, [], x5.Transits, x5.Done⟩ : GState) (⟨4, 0, 1, 0, 0, x7, 0, 0, []⟩ : GOp)).bind fun x15 =>
(show Option (Bool) from
bnd (decide (x15.2 = 5)) fun x18 =>
cond x18 ((d_ref14_Same n (⟨x5.Master, x5.Ents, x5.Receipts, [], x5.Transits, x5.Done⟩ : GState) x15.1).bind fun x19 =>
cond x19 ((d_law16_awake n).bind fun x20 =>
some (x20 : Bool)) (some (false : Bool))) (some (false : Bool))).bind <| fun y2_1 =>
some ((y2_1 : Bool)))))))
theorem d_law16_SellErrors_c {n : Nat} {a1 : Int} {a2 : Int} {r : Bool} (h0 : d_law16_SellErrors n a1 a2 = some r) : PP Tryz.prog 5 [int a1, int a2] (fun y => y = boo r) := by
  unfold d_law16_SellErrors at h0
  refine pp_of_pc (R0 := fun y H => Cv (frzH H) y (boo r)) ?_ (fun y H hc => ⟨_, rfl, pvB r, hc⟩)
  refine pcw (c := _) Tryz.func5 rfl rfl ?_; intro Q hret hnorm
  refine tc tbk 7 (.mk ?_)
  obtain ⟨x3, e3, h0⟩ := bind_e h0
  refine sC cal6 (d_law00_Place_c e3) ?_
  refine ni tbk h0 fun x4 h0 => ?_
  refine tr tbk 4 (.mk ?_)
  obtain ⟨x5, e5, h0⟩ := bind_e h0
  refine sC cal12 (d_law16_stocked_c e5) ?_
  refine sA 1 z32 fun v6 => ?_
  refine sS ⟨32, 10, true, true, v6, [[int x5.Master.Entities, int x5.Master.Periods, lst 1 fI x5.Master.Weights, lst 1 (fL 1 fI) x5.Master.Methods, lst 1 (fL 1 fI) x5.Master.Costs, lst 8 GEnt.av x5.Ents, lst 8 GReceipt.av x5.Receipts, .sc (.slice none 0 0), lst 6 GTransit.av x5.Transits, int x5.Done]]⟩ sh32 ?_
  refine tr tbk 4 (.mk ?_)
  refine ni tbk h0 fun x7 h0 => ?_
  refine sY (yv_build (cs := [int 4, int 0, int 1, int 0, int 0, int x7, int 0, int 0, .sc (.slice none 0 0)]) (ps := [(0, _), (2, _), (5, _)]) rfl pl35 z35 rfl (.cons rfl (.cons rfl (.cons rfl .nil))) (by kernel_rfl)) ?_
  refine sA 2 z35 fun v8 => ?_
  refine sS ⟨35, 9, true, true, v8, [[int 4, int 0, int 1, int 0, int 0, int x7, int 0, int 0, .sc (.slice none 0 0)]]⟩ sh35 ?_
  refine tr tbk 6 (.mk ?_)
  obtain ⟨x9, e9, h0⟩ := bind_e h0
  refine sC cal6 (d_law00_Place_c e9) ?_
  refine tr tbk 4 (.mk ?_)
  refine nb tbk h0 fun x10 h0 => ?_
  refine tr tbk 2 (.mk ?_)
  cases x10
  replace h0 := cf h0
  refine tc tbk 3 (.mk ?_)
  refine nb tbk h0 fun x11 h0 => ?_
  refine tr tbk 2 (.mk ?_)
  cases x11
  replace h0 := cf h0
  refine tc tbk 3 (.mk ?_)
  refine nb tbk h0 fun x12 h0 => ?_
  refine tr tbk 2 (.mk ?_)
  cases x12
  replace h0 := cf h0
  refine tc tbk 3 (.mk ?_)
  refine nb tbk h0 fun x13 h0 => ?_
  refine tr tbk 2 (.mk ?_)
  cases x13
  replace h0 := cf h0
  refine tc tbk 3 (.mk ?_)
  refine nb tbk h0 fun x14 h0 => ?_
  refine tr tbk 2 (.mk ?_)
  cases x14
  replace h0 := cf h0
  refine tc tbk 7 (.mk ?_)
  obtain ⟨x15, e15, h0⟩ := bind_e h0
  refine sY (yv_callP rfl rfl (.cons rfl (.cons rfl .nil)) cal13 (.cons (CvL.agg (.cons (.refl _) (.cons (.refl _) (.cons (.refl _) (.cons (.refl _) (.cons (.refl _) (.cons (.refl _) (.cons (.refl _) (.cons (.nil _) (.cons (.refl _) (.cons (.refl _) .nil))))))))))) (.cons (CvL.agg (.cons (.refl _) (.cons (.refl _) (.cons (.refl _) (.cons (.refl _) (.cons (.refl _) (.cons (.refl _) (.cons (.refl _) (.cons (.refl _) (.cons (.nil _) .nil)))))))))) .nil)) (d_sell_Do_c e15)) ?_
  refine tr tbk 3 (.mk ?_)
  refine sA 5 z32 fun v16 => ?_
  refine sS ⟨32, 10, true, true, v16, [(GState.av x15.1)]⟩ sh32 ?_
  refine tr tbk 3 (.mk ?_)
  refine jn h0 [] [] (fun (a : Bool) (k : Unit) => [(4, boo a)]) (fun a k => []) ⟨fun j17 h1 => ?_, ?_⟩
  refine tc tbk 3 (.mk ?_)
  refine nb tbk h1 fun x18 h1 => ?_
  refine tr tbk 1 (.mk ?_)
  cases x18
  replace h1 := cf h1
  refine tr tbk 9 (.mk ?_)
  exact lf h1 () leA
  replace h1 := ct h1
  refine tr tbk 2 (.mk ?_)
  obtain ⟨x19, e19, h1⟩ := bind_e h1
  refine sY (yv_callP rfl rfl (.cons rfl (.cons rfl .nil)) cal9 (.cons (CvL.agg (.cons (.refl _) (.cons (.refl _) (.cons (.refl _) (.cons (.refl _) (.cons (.refl _) (.cons (.refl _) (.cons (.refl _) (.cons (.nil _) (.cons (.refl _) (.cons (.refl _) .nil))))))))))) (.cons (.refl _) .nil)) (d_ref14_Same_c e19)) ?_
  refine tr tbk 2 (.mk ?_)
  cases x19
  replace h1 := cf h1
  refine tr tbk 4 (.mk ?_)
  exact lf h1 () leA
  replace h1 := ct h1
  obtain ⟨x20, e20, h1⟩ := bind_e h1
  refine sC cal14 (d_law16_awake_c e20) ?_
  refine tr tbk 3 (.mk ?_)
  exact lf h1 () leA
  rintro y2_1 _ h0
  obtain rfl := nxt_e h0
  refine wR hret (rT .nil) ?_
  exact .refl _
  replace h0 := ct h0
  refine tc tbk 3 (.mk ?_)
  refine sY (yv_build (cs := [int 4, int 2, int 1, int 0, int 0, int x4, int 0, int 0, .sc (.slice none 0 0)]) (ps := [(0, _), (1, _), (2, _), (5, _)]) rfl pl35 z35 rfl (.cons rfl (.cons rfl (.cons rfl (.cons rfl .nil)))) (by kernel_rfl)) ?_
  refine sS ⟨35, 9, true, true, v8, [[int 4, int 2, int 1, int 0, int 0, int x4, int 0, int 0, .sc (.slice none 0 0)]]⟩ sh35 ?_
  refine tr tbk 7 (.mk ?_)
  obtain ⟨x21, e21, h0⟩ := bind_e h0
  refine sY (yv_callP rfl rfl (.cons rfl (.cons rfl .nil)) cal13 (.cons (CvL.agg (.cons (.refl _) (.cons (.refl _) (.cons (.refl _) (.cons (.refl _) (.cons (.refl _) (.cons (.refl _) (.cons (.refl _) (.cons (.nil _) (.cons (.refl _) (.cons (.refl _) .nil))))))))))) (.cons (CvL.agg (.cons (.refl _) (.cons (.refl _) (.cons (.refl _) (.cons (.refl _) (.cons (.refl _) (.cons (.refl _) (.cons (.refl _) (.cons (.refl _) (.cons (.nil _) .nil)))))))))) .nil)) (d_sell_Do_c e21)) ?_
  refine tr tbk 3 (.mk ?_)
  refine sA 5 z32 fun v22 => ?_
  refine sS ⟨32, 10, true, true, v22, [(GState.av x21.1)]⟩ sh32 ?_
  refine tr tbk 3 (.mk ?_)
  refine jn h0 [] [] (fun (a : Bool) (k : Unit) => [(4, boo a)]) (fun a k => []) ⟨fun j23 h1 => ?_, ?_⟩
  refine tc tbk 3 (.mk ?_)
  refine nb tbk h1 fun x24 h1 => ?_
  refine tr tbk 1 (.mk ?_)
  cases x24
  replace h1 := cf h1
  refine tr tbk 9 (.mk ?_)
  exact lf h1 () leA
  replace h1 := ct h1
  refine tr tbk 2 (.mk ?_)
  obtain ⟨x25, e25, h1⟩ := bind_e h1
  refine sY (yv_callP rfl rfl (.cons rfl (.cons rfl .nil)) cal9 (.cons (CvL.agg (.cons (.refl _) (.cons (.refl _) (.cons (.refl _) (.cons (.refl _) (.cons (.refl _) (.cons (.refl _) (.cons (.refl _) (.cons (.nil _) (.cons (.refl _) (.cons (.refl _) .nil))))))))))) (.cons (.refl _) .nil)) (d_ref14_Same_c e25)) ?_
  refine tr tbk 2 (.mk ?_)
  cases x25
  replace h1 := cf h1
  refine tr tbk 4 (.mk ?_)
  exact lf h1 () leA
  replace h1 := ct h1
  obtain ⟨x26, e26, h1⟩ := bind_e h1
  refine sC cal14 (d_law16_awake_c e26) ?_
  refine tr tbk 3 (.mk ?_)
  exact lf h1 () leA
  rintro y2_1 _ h0
  obtain rfl := nxt_e h0
  refine wR hret (rT .nil) ?_
  exact .refl _
  replace h0 := ct h0
  refine tc tbk 3 (.mk ?_)
  refine sY (yv_build (cs := [int 0, int 1, int 0, int 3, int 3, int 0, int 0, int 1, boo false]) (ps := [(1, _), (3, _), (4, _), (7, _)]) rfl pl54 z54 rfl (.cons rfl (.cons rfl (.cons rfl (.cons rfl .nil)))) (by kernel_rfl)) ?_
  refine sY (yv_to (y := lst 9 GSale.av ([(⟨0, 1, 0, 3, 3, 0, 0, 1, false⟩ : GSale)] : List GSale)) (yv_buildSlice (ps := [(0, _)]) (rows := [[int 0, int 1, int 0, int 3, int 3, int 0, int 0, int 1, boo false]]) rfl Tryz.underlying29 bz54 (.cons rfl .nil) (by kernel_rfl) rfl rfl rfl) rfl) ?_
  refine tr tbk 1 (.mk ?_)
  refine sS ⟨32, 10, true, true, v6, [[int x5.Master.Entities, int x5.Master.Periods, lst 1 fI x5.Master.Weights, lst 1 (fL 1 fI) x5.Master.Methods, lst 1 (fL 1 fI) x5.Master.Costs, lst 8 GEnt.av x5.Ents, lst 8 GReceipt.av x5.Receipts, lst 9 GSale.av ([(⟨0, 1, 0, 3, 3, 0, 0, 1, false⟩ : GSale)] : List GSale), lst 6 GTransit.av x5.Transits, int x5.Done]]⟩ sh29 ?_
  refine tr tbk 3 (.mk ?_)
  refine sY (yv_build (cs := [int 5, int 0, int 0, int 0, int 0, int x4, int 0, int 0, .sc (.slice none 0 0)]) (ps := [(0, _), (5, _)]) rfl pl35 z35 rfl (.cons rfl (.cons rfl .nil)) (by kernel_rfl)) ?_
  refine sS ⟨35, 9, true, true, v8, [[int 5, int 0, int 0, int 0, int 0, int x4, int 0, int 0, .sc (.slice none 0 0)]]⟩ sh35 ?_
  refine tr tbk 7 (.mk ?_)
  obtain ⟨x27, e27, h0⟩ := bind_e h0
  refine sY (yv_callP rfl rfl (.cons rfl (.cons rfl .nil)) cal13 (.cons (.refl _) (.cons (CvL.agg (.cons (.refl _) (.cons (.refl _) (.cons (.refl _) (.cons (.refl _) (.cons (.refl _) (.cons (.refl _) (.cons (.refl _) (.cons (.refl _) (.cons (.nil _) .nil)))))))))) .nil)) (d_sell_Do_c e27)) ?_
  refine tr tbk 3 (.mk ?_)
  refine sA 5 z32 fun v28 => ?_
  refine sS ⟨32, 10, true, true, v28, [(GState.av x27.1)]⟩ sh32 ?_
  refine tr tbk 3 (.mk ?_)
  refine jn h0 [] [] (fun (a : Bool) (k : Unit) => [(4, boo a)]) (fun a k => []) ⟨fun j29 h1 => ?_, ?_⟩
  refine tc tbk 3 (.mk ?_)
  refine nb tbk h1 fun x30 h1 => ?_
  refine tr tbk 1 (.mk ?_)
  cases x30
  replace h1 := cf h1
  refine tr tbk 9 (.mk ?_)
  exact lf h1 () leA
  replace h1 := ct h1
  refine tr tbk 2 (.mk ?_)
  obtain ⟨x31, e31, h1⟩ := bind_e h1
  refine sC cal9 (d_ref14_Same_c e31) ?_
  refine tr tbk 2 (.mk ?_)
  cases x31
  replace h1 := cf h1
  refine tr tbk 4 (.mk ?_)
  exact lf h1 () leA
  replace h1 := ct h1
  obtain ⟨x32, e32, h1⟩ := bind_e h1
  refine sC cal14 (d_law16_awake_c e32) ?_
  refine tr tbk 3 (.mk ?_)
  exact lf h1 () leA
  rintro y2_1 _ h0
  obtain rfl := nxt_e h0
  refine wR hret (rT .nil) ?_
  exact .refl _
  replace h0 := ct h0
  refine tc tbk 6 (.mk ?_)
  refine jn h0 [4, 6, 7, 8] [2] (fun (a : (List GSale)) (k : Nat) => []) (fun a k => [(1, ⟨32, 10, true, true, v6, [[int x5.Master.Entities, int x5.Master.Periods, lst 1 fI x5.Master.Weights, lst 1 (fL 1 fI) x5.Master.Methods, lst 1 (fL 1 fI) x5.Master.Costs, lst 8 GEnt.av x5.Ents, lst 8 GReceipt.av x5.Receipts, .sl 4 k 0 a.length, lst 6 GTransit.av x5.Transits, int x5.Done]]⟩), (4, ⟨54, 9, true, true, k, a.map GSale.av⟩)]) ⟨fun j33 h1 => ?_, ?_⟩
  refine tc tbk 1 (.mk ?_)
  refine c_nilcell 1 0 7 4 54 9 (rows := fun v34 => [[int x5.Master.Entities, int x5.Master.Periods, lst 1 fI x5.Master.Weights, lst 1 (fL 1 fI) x5.Master.Methods, lst 1 (fL 1 fI) x5.Master.Costs, lst 8 GEnt.av x5.Ents, lst 8 GReceipt.av x5.Receipts, .sl 4 v34 0 0, lst 6 GTransit.av x5.Transits, int x5.Done]]) rfl rfl rfl rfl (fun _ => rfl) ?_; intro v34
  refine lp (fun n (a : Int × (List GSale)) => d_law16_SellErrors_L0 n a.1 a.2) ((0 : Int), (([] : List GSale) : List GSale)) v34 h1 [4, 6, 7, 8] [2] (fun (a : Int × (List GSale)) (k : Nat) => [(9, int a.1)]) (fun a k => [(1, ⟨32, 10, true, true, v6, [[int x5.Master.Entities, int x5.Master.Periods, lst 1 fI x5.Master.Weights, lst 1 (fL 1 fI) x5.Master.Methods, lst 1 (fL 1 fI) x5.Master.Costs, lst 8 GEnt.av x5.Ents, lst 8 GReceipt.av x5.Receipts, .sl 4 k 0 a.2.length, lst 6 GTransit.av x5.Transits, int x5.Done]]⟩), (4, ⟨54, 9, true, true, k, a.2.map GSale.av⟩)]) (fun _ => rfl) ⟨leA, ?_⟩
  rintro n ⟨y0_1, y0_3⟩ w0_2 hm h1
  replace h1 : d_law16_SellErrors_L0 (n + 1) y0_1 y0_3 = some _ := h1
  rw [d_law16_SellErrors_L0] at h1
  refine tc tbk 4 (.mk ?_)
  refine nb tbk h1 fun x35 h1 => ?_
  refine tr tbk 1 (.mk ?_)
  cases x35
  replace h1 := cf h1
  refine tc tbk 2 (.mk ?_)
  exact lf h1 w0_2 leA
  replace h1 := ct h1
  refine tc tbk 7 (.mk ?_)
  refine sY (yv_build (cs := [int 0, int 0, int 0, int 0, int 0, int 0, int 0, int 1, boo false]) (ps := [(7, _)]) rfl pl54 z54 rfl (.cons rfl .nil) (by kernel_rfl)) ?_
  refine sY (yv_to (y := lst 9 GSale.av ([(⟨0, 0, 0, 0, 0, 0, 0, 1, false⟩ : GSale)] : List GSale)) (yv_buildSlice (ps := [(0, _)]) (rows := [[int 0, int 0, int 0, int 0, int 0, int 0, int 0, int 1, boo false]]) rfl Tryz.underlying29 bz54 (.cons rfl .nil) (by kernel_rfl) rfl rfl rfl) rfl) ?_
  obtain ⟨x36, e36, h1⟩ := bnd_e h1
  obtain ⟨p37, h1⟩ := asrt_e h1
  refine rse rfl rfl rfl (yl_appT (g := GSale.av) (l := y0_3) (m := ([(⟨0, 0, 0, 0, 0, 0, 0, 1, false⟩ : GSale)] : List GSale)) .any rfl Tryz.underlying29 bz54 by54 rfl rfl rfl rfl rfl rfl rfl rfl rfl rfl (Eq.symm rfl) (.refl _) (fun _ => rfl) e36 p37) ?_; rintro _ _ ⟨v38, -, rfl, rfl⟩
  refine tr tbk 1 (.mk ?_)
  refine sS ⟨32, 10, true, true, v6, [[int x5.Master.Entities, int x5.Master.Periods, lst 1 fI x5.Master.Weights, lst 1 (fL 1 fI) x5.Master.Methods, lst 1 (fL 1 fI) x5.Master.Costs, lst 8 GEnt.av x5.Ents, lst 8 GReceipt.av x5.Receipts, .sl 4 v38 0 x36.length, lst 6 GTransit.av x5.Transits, int x5.Done]]⟩ sh29 ?_
  refine tr tbk 4 (.mk ?_)
  refine ni tbk h1 fun x39 h1 => ?_
  refine tr tbk 2 (.mk ?_)
  exact bk (x39, x36) v38 h1 leA
  rintro y1_2 w1_1 h0
  refine tc tbk 1 (.mk ?_)
  refine sY (yv_build (cs := [int 4, int 0, int 1, int 0, int 0, int 1, int 0, int 0, .sc (.slice none 0 0)]) (ps := [(0, _), (2, _), (5, _)]) rfl pl35 z35 rfl (.cons rfl (.cons rfl (.cons rfl .nil))) (by kernel_rfl)) ?_
  refine sS ⟨35, 9, true, true, v8, [[int 4, int 0, int 1, int 0, int 0, int 1, int 0, int 0, .sc (.slice none 0 0)]]⟩ sh35 ?_
  refine tr tbk 7 (.mk ?_)
  obtain ⟨x40, e40, h0⟩ := bind_e h0
  refine rse rfl rfl rfl (Yield.frz 4 rfl (Yield.weak (yv_callP rfl rfl (.cons rfl (.cons rfl .nil)) cal13 (.cons (CvL.agg (.cons (.refl _) (.cons (.refl _) (.cons (.refl _) (.cons (.refl _) (.cons (.refl _) (.cons (.refl _) (.cons (.refl _) (.cons (cv_lst rfl rfl rfl rfl rfl (Eq.symm rfl)) (.cons (.refl _) (.cons (.refl _) .nil))))))))))) (.cons (CvL.agg (.cons (.refl _) (.cons (.refl _) (.cons (.refl _) (.cons (.refl _) (.cons (.refl _) (.cons (.refl _) (.cons (.refl _) (.cons (.refl _) (.cons (.nil _) .nil)))))))))) .nil)) (d_sell_Do_c e40)) (fun _ h => h) (fun _ h => h.elim))) ?_; rintro _ _ ⟨rfl, rfl⟩
  refine tr tbk 3 (.mk ?_)
  refine sA 5 z32 fun v41 => ?_
  refine sS ⟨32, 10, true, true, v41, [(GState.av x40.1)]⟩ sh32 ?_
  refine tr tbk 3 (.mk ?_)
  refine jn h0 [] [] (fun (a : Bool) (k : Unit) => [(4, boo a)]) (fun a k => []) ⟨fun j42 h1 => ?_, ?_⟩
  refine tc tbk 3 (.mk ?_)
  refine nb tbk h1 fun x43 h1 => ?_
  refine tr tbk 1 (.mk ?_)
  cases x43
  replace h1 := cf h1
  refine tr tbk 9 (.mk ?_)
  exact lf h1 () leA
  replace h1 := ct h1
  refine tr tbk 2 (.mk ?_)
  obtain ⟨x44, e44, h1⟩ := bind_e h1
  refine sY (yv_callP rfl rfl (.cons rfl (.cons rfl .nil)) cal9 (.cons (CvL.agg (.cons (.refl _) (.cons (.refl _) (.cons (.refl _) (.cons (.refl _) (.cons (.refl _) (.cons (.refl _) (.cons (.refl _) (.cons (cv_lst rfl rfl rfl rfl rfl (Eq.symm rfl)) (.cons (.refl _) (.cons (.refl _) .nil))))))))))) (.cons (.refl _) .nil)) (d_ref14_Same_c e44)) ?_
  refine tr tbk 2 (.mk ?_)
  cases x44
  replace h1 := cf h1
  refine tr tbk 4 (.mk ?_)
  exact lf h1 () leA
  replace h1 := ct h1
  obtain ⟨x45, e45, h1⟩ := bind_e h1
  refine sC cal14 (d_law16_awake_c e45) ?_
  refine tr tbk 3 (.mk ?_)
  exact lf h1 () leA
  rintro y2_1 _ h0
  obtain rfl := nxt_e h0
  refine wR hret (rT .nil) ?_
  exact .refl _
  replace h0 := ct h0
  refine tc tbk 3 (.mk ?_)
  refine sY (yv_build (cs := [int 5, int 0, int 0, int 0, int 0, int 1, int 0, int x4, .sc (.slice none 0 0)]) (ps := [(0, _), (7, _), (5, _)]) rfl pl35 z35 rfl (.cons rfl (.cons rfl (.cons rfl .nil))) (by kernel_rfl)) ?_
  refine sS ⟨35, 9, true, true, v8, [[int 5, int 0, int 0, int 0, int 0, int 1, int 0, int x4, .sc (.slice none 0 0)]]⟩ sh35 ?_
  refine tr tbk 7 (.mk ?_)
  obtain ⟨x46, e46, h0⟩ := bind_e h0
  refine sY (yv_callP rfl rfl (.cons rfl (.cons rfl .nil)) cal13 (.cons (CvL.agg (.cons (.refl _) (.cons (.refl _) (.cons (.refl _) (.cons (.refl _) (.cons (.refl _) (.cons (.refl _) (.cons (.refl _) (.cons (.nil _) (.cons (.refl _) (.cons (.refl _) .nil))))))))))) (.cons (CvL.agg (.cons (.refl _) (.cons (.refl _) (.cons (.refl _) (.cons (.refl _) (.cons (.refl _) (.cons (.refl _) (.cons (.refl _) (.cons (.refl _) (.cons (.nil _) .nil)))))))))) .nil)) (d_sell_Do_c e46)) ?_
  refine tr tbk 3 (.mk ?_)
  refine sA 5 z32 fun v47 => ?_
  refine sS ⟨32, 10, true, true, v47, [(GState.av x46.1)]⟩ sh32 ?_
  refine tr tbk 3 (.mk ?_)
  refine jn h0 [] [] (fun (a : Bool) (k : Unit) => [(4, boo a)]) (fun a k => []) ⟨fun j48 h1 => ?_, ?_⟩
  refine tc tbk 3 (.mk ?_)
  refine nb tbk h1 fun x49 h1 => ?_
  refine tr tbk 1 (.mk ?_)
  cases x49
  replace h1 := cf h1
  refine tr tbk 9 (.mk ?_)
  exact lf h1 () leA
  replace h1 := ct h1
  refine tr tbk 2 (.mk ?_)
  obtain ⟨x50, e50, h1⟩ := bind_e h1
  refine sY (yv_callP rfl rfl (.cons rfl (.cons rfl .nil)) cal9 (.cons (CvL.agg (.cons (.refl _) (.cons (.refl _) (.cons (.refl _) (.cons (.refl _) (.cons (.refl _) (.cons (.refl _) (.cons (.refl _) (.cons (.nil _) (.cons (.refl _) (.cons (.refl _) .nil))))))))))) (.cons (.refl _) .nil)) (d_ref14_Same_c e50)) ?_
  refine tr tbk 2 (.mk ?_)
  cases x50
  replace h1 := cf h1
  refine tr tbk 4 (.mk ?_)
  exact lf h1 () leA
  replace h1 := ct h1
  obtain ⟨x51, e51, h1⟩ := bind_e h1
  refine sC cal14 (d_law16_awake_c e51) ?_
  refine tr tbk 3 (.mk ?_)
  exact lf h1 () leA
  rintro y2_1 _ h0
  obtain rfl := nxt_e h0
  refine wR hret (rT .nil) ?_
  exact .refl _
  replace h0 := ct h0
  refine tc tbk 3 (.mk ?_)
  refine sY (yv_build (cs := [int 4, int 0, int 1, int 1, int 0, int x4, int 0, int 0, .sc (.slice none 0 0)]) (ps := [(0, _), (2, _), (3, _), (5, _)]) rfl pl35 z35 rfl (.cons rfl (.cons rfl (.cons rfl (.cons rfl .nil)))) (by kernel_rfl)) ?_
  refine sS ⟨35, 9, true, true, v8, [[int 4, int 0, int 1, int 1, int 0, int x4, int 0, int 0, .sc (.slice none 0 0)]]⟩ sh35 ?_
  refine tr tbk 7 (.mk ?_)
  obtain ⟨x52, e52, h0⟩ := bind_e h0
  refine sY (yv_callP rfl rfl (.cons rfl (.cons rfl .nil)) cal13 (.cons (CvL.agg (.cons (.refl _) (.cons (.refl _) (.cons (.refl _) (.cons (.refl _) (.cons (.refl _) (.cons (.refl _) (.cons (.refl _) (.cons (.nil _) (.cons (.refl _) (.cons (.refl _) .nil))))))))))) (.cons (CvL.agg (.cons (.refl _) (.cons (.refl _) (.cons (.refl _) (.cons (.refl _) (.cons (.refl _) (.cons (.refl _) (.cons (.refl _) (.cons (.refl _) (.cons (.nil _) .nil)))))))))) .nil)) (d_sell_Do_c e52)) ?_
  refine tr tbk 3 (.mk ?_)
  refine sA 5 z32 fun v53 => ?_
  refine sS ⟨32, 10, true, true, v53, [(GState.av x52.1)]⟩ sh32 ?_
  refine tr tbk 3 (.mk ?_)
  refine jn h0 [] [] (fun (a : Bool) (k : Unit) => [(4, boo a)]) (fun a k => []) ⟨fun j54 h1 => ?_, ?_⟩
  refine tc tbk 3 (.mk ?_)
  refine nb tbk h1 fun x55 h1 => ?_
  refine tr tbk 1 (.mk ?_)
  cases x55
  replace h1 := cf h1
  refine tr tbk 9 (.mk ?_)
  exact lf h1 () leA
  replace h1 := ct h1
  refine tr tbk 2 (.mk ?_)
  obtain ⟨x56, e56, h1⟩ := bind_e h1
  refine sY (yv_callP rfl rfl (.cons rfl (.cons rfl .nil)) cal9 (.cons (CvL.agg (.cons (.refl _) (.cons (.refl _) (.cons (.refl _) (.cons (.refl _) (.cons (.refl _) (.cons (.refl _) (.cons (.refl _) (.cons (.nil _) (.cons (.refl _) (.cons (.refl _) .nil))))))))))) (.cons (.refl _) .nil)) (d_ref14_Same_c e56)) ?_
  refine tr tbk 2 (.mk ?_)
  cases x56
  replace h1 := cf h1
  refine tr tbk 4 (.mk ?_)
  exact lf h1 () leA
  replace h1 := ct h1
  obtain ⟨x57, e57, h1⟩ := bind_e h1
  refine sC cal14 (d_law16_awake_c e57) ?_
  refine tr tbk 3 (.mk ?_)
  exact lf h1 () leA
  rintro y2_1 _ h0
  obtain rfl := nxt_e h0
  refine wR hret (rT .nil) ?_
  exact .refl _
end Go.Pv
