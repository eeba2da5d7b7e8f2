import Derived.Test.YtpbcnilkippahaaGreatK45b
set_option linter.unusedVariables false
namespace Go.Pv
open Go.Proofs
set_option maxRecDepth 10000
set_option maxHeartbeats 1000000
def d_law15_ReceiveMany_L0 (a1 : List Int) : Nat → Int → Int → GState → Int → Int → Int → Int → Option (GState × Int × Int × Int × Int)
  | 0, _, _, _, _, _, _, _ => none
  | n + 1, y0_1, y0_2, y0_3, y0_4, y0_5, y0_6, y0_7 =>
    (show Option (Bool) from
    bnd (decide (y0_2 < (a1.length : Int))) fun x7 =>
    cond x7 (bnd (decide (y0_2 < 35)) fun x8 =>
    some (x8 : Bool)) (some (false : Bool))).bind <| fun y1_1 =>
    cond y1_1 ((show Option (Int × GState × Int × Int × Int × Int) from
    (ix a1 y0_2).bind fun x10 =>
    (d_law00_Place x10 16777216).bind fun x11 =>
    bnd (x11.tmod 2) fun x12 =>
    bnd (w64 (x11.tdiv 2)) fun x13 =>
    bnd (x13.tmod 4) fun x14 =>
    bnd (w64 (x11.tdiv 8)) fun x15 =>
    bnd (x15.tmod 2) fun x16 =>
    bnd (w64 (x11.tdiv 16)) fun x17 =>
    bnd (x17.tmod 30) fun x18 =>
    bnd (w64 (1 + x18)) fun x19 =>
    bnd (w64 (x11.tdiv 480)) fun x20 =>
    bnd (x20.tmod 2000) fun x21 =>
    (d_receive_Do n y0_3 (⟨1, x12, x14, x16, 0, x19, x21, 0, []⟩ : GOp)).bind fun x23 =>
    (show Option (Bool) from
    bnd (decide (x23.2 = 6)) fun x26 =>
    cond x26 (bnd (decide (x14 = 0)) fun x27 =>
    some (x27 : Bool)) (some (false : Bool))).bind <| fun y2_1 =>
    cond y2_1 (some ((y0_1 : Int), (y0_3 : GState), (y0_4 : Int), (y0_5 : Int), (y0_6 : Int), (y0_7 : Int))) ((show Option (Bool) from
    bnd (decide (x23.2 ≠ 0)) fun x29 =>
    cond x29 (some (true : Bool)) (bnd (w64 (y0_1 + 1)) fun x30 =>
    bnd (decide ((x23.1.Receipts.length : Int) ≠ x30)) fun x31 =>
    cond x31 (some (true : Bool)) (bnd (decide ((x23.1.Ents.length : Int) ≠ 2)) fun x32 =>
    some (x32 : Bool)))).bind <| fun y3_1 =>
    asrt (y3_1 = false) <|
    bnd (decide (x14 = 3)) fun x33 =>
    (show Option (Int) from
    cond x33 (bnd (w64 (10 * x19)) fun x35 =>
    some (x35 : Int)) (some (x21 : Int))).bind <| fun y4_1 =>
    bnd (decide (x12 = 0)) fun x36 =>
    cond x36 (bnd (w64 (y0_4 + y4_1)) fun x44 =>
    bnd (w64 (y0_5 + x21)) fun x45 =>
    bnd (w64 (y0_1 + 1)) fun x46 =>
    bnd (w64 (x46 - 1)) fun x47 =>
    (ix x23.1.Receipts x47).bind fun x48 =>
    bnd (!decide ((x48 : GReceipt) = ((⟨0, x14, x16, x19, x21, x19, x21, 0⟩ : GReceipt) : GReceipt))) fun x49 =>
    asrt (x49 = false) <|
    some ((x46 : Int), (x23.1 : GState), (x44 : Int), (x45 : Int), (y0_6 : Int), (y0_7 : Int))) (asrt (x12 = 1) <|
    bnd (w64 (y0_6 + y4_1)) fun x38 =>
    bnd (w64 (y0_7 + x21)) fun x39 =>
    bnd (w64 (y0_1 + 1)) fun x40 =>
    bnd (w64 (x40 - 1)) fun x41 =>
    (ix x23.1.Receipts x41).bind fun x42 =>
    bnd (!decide ((x42 : GReceipt) = ((⟨1, x14, x16, x19, x21, x19, x21, 0⟩ : GReceipt) : GReceipt))) fun x43 =>
    asrt (x43 = false) <|
    some ((x40 : Int), (x23.1 : GState), (y0_4 : Int), (y0_5 : Int), (x38 : Int), (x39 : Int))))).bind <| p2 fun (y5_1 : Int) (q0 : GState × Int × Int × Int × Int) => (p2 fun (y5_2 : GState) (q1 : Int × Int × Int × Int) => (p2 fun (y5_3 : Int) (q2 : Int × Int × Int) => (p2 fun (y5_4 : Int) (q3 : Int × Int) => (p2 fun (y5_5 : Int) (y5_6 : Int) =>
    bnd (w64 (y0_2 + 1)) fun x50 =>
    d_law15_ReceiveMany_L0 a1 n (y5_1 : Int) (x50 : Int) (y5_2 : GState) (y5_3 : Int) (y5_4 : Int) (y5_5 : Int) (y5_6 : Int)) q3) q2) q1) q0) (some ((y0_3 : GState), (y0_4 : Int), (y0_5 : Int), (y0_6 : Int), (y0_7 : Int)))
def d_law15_ReceiveMany_L1 (y6_1 : GState) (y6_2 : Int) (y6_3 : Int) (y6_4 : Int) (y6_5 : Int) : Nat → Int → Option (Unit)
  | 0, _ => none
  | n + 1, y7_1 =>
    bnd (decide (y7_1 < 2)) fun x52 =>
    cond x52 ((show Option (Int) from
    (ix y6_1.Ents y7_1).bind fun x54 =>
    bnd (decide (y7_1 = 0)) fun x55 =>
    cond x55 ((show Option (Bool) from
    (ix x54.Bal 0).bind fun x66 =>
    bnd (decide (x66 ≠ y6_2)) fun x67 =>
    cond x67 (some (true : Bool)) ((ix x54.Bal 1).bind fun x68 =>
    bnd (w64 (0 - y6_3)) fun x69 =>
    bnd (decide (x68 ≠ x69)) fun x70 =>
    cond x70 (some (true : Bool)) ((d_ref14_All n y6_1 0).bind fun x71 =>
    bnd (decide (x71 ≠ y6_2)) fun x72 =>
    some (x72 : Bool)))).bind <| fun y8_1 =>
    asrt (y8_1 = false) <|
    some (0 : Int)) (asrt (y7_1 = 1) <|
    (show Option (Bool) from
    (ix x54.Bal 0).bind fun x58 =>
    bnd (decide (x58 ≠ y6_4)) fun x59 =>
    cond x59 (some (true : Bool)) ((ix x54.Bal 1).bind fun x60 =>
    bnd (w64 (0 - y6_5)) fun x61 =>
    bnd (decide (x60 ≠ x61)) fun x62 =>
    cond x62 (some (true : Bool)) ((d_ref14_All n y6_1 1).bind fun x63 =>
    bnd (decide (x63 ≠ y6_4)) fun x64 =>
    some (x64 : Bool)))).bind <| fun y8_1 =>
    asrt (y8_1 = false) <|
    some (1 : Int))).bind <| fun y9_1 =>
    bnd (w64 (y9_1 + 1)) fun x73 =>
    d_law15_ReceiveMany_L1 y6_1 y6_2 y6_3 y6_4 y6_5 n (x73 : Int)) (some ())
def d_law15_ReceiveMany (n : Nat) (a1 : List Int) : Option (Bool) :=
(d_law15_start n).bind fun x2 =>
(show Option (GState × Int × Int × Int × Int) from
d_law15_ReceiveMany_L0 a1 n (0 : Int) (0 : Int) (x2 : GState) (0 : Int) (0 : Int) (0 : Int) (0 : Int)).bind <| p2 fun (y6_1 : GState) (q0 : Int × Int × Int × Int) => (p2 fun (y6_2 : Int) (q1 : Int × Int × Int) => (p2 fun (y6_3 : Int) (q2 : Int × Int) => (p2 fun (y6_4 : Int) (y6_5 : Int) =>
(show Option (Unit) from
d_law15_ReceiveMany_L1 y6_1 y6_2 y6_3 y6_4 y6_5 n (0 : Int)).bind <| fun _ =>
(d_law15_awake n).bind fun x74 =>
some ((x74 : Bool))) q2) q1) q0
theorem d_law15_ReceiveMany_c {n : Nat} {a1 : List Int} {r : Bool} (h0 : d_law15_ReceiveMany n a1 = some r) : PP Tryz.prog 4 [lst 1 fI a1] (fun y => y = boo r) := by
  unfold d_law15_ReceiveMany at h0
  refine pp_of_pc (R0 := fun y H => Cv (frzH H) y (boo r)) ?_ (fun y H hc => ⟨_, rfl, pvB r, hc⟩)
  refine pcw (c := _) Tryz.func4 rfl rfl ?_; intro Q hret hnorm
  refine tc tbk 6 (.mk ?_)
  obtain ⟨x2, e2, h0⟩ := bind_e h0
  refine sC cal7 (d_law15_start_c e2) ?_
  refine sA 1 z32 fun v3 => ?_
  refine sS ⟨32, 10, true, true, v3, [(GState.av x2)]⟩ sh32 ?_
  refine tr tbk 3 (.mk ?_)
  refine sA 2 z47 fun v4 => ?_
  refine tr tbk 10 (.mk ?_)
  refine jn h0 [2, 3, 4] [] (fun (a : GState × Int × Int × Int × Int) (k : Unit) => []) (fun a k => [(1, ⟨32, 10, true, true, v3, [(GState.av a.1)]⟩), (2, ⟨47, 4, true, true, v4, [[int a.2.1, int a.2.2.1, int a.2.2.2.1, int a.2.2.2.2]]⟩)]) ⟨fun j5 h1 => ?_, ?_⟩
  refine tc tbk 1 (.mk ?_)
  refine lp (fun n (a : Int × Int × GState × Int × Int × Int × Int) => d_law15_ReceiveMany_L0 a1 n a.1 a.2.1 a.2.2.1 a.2.2.2.1 a.2.2.2.2.1 a.2.2.2.2.2.1 a.2.2.2.2.2.2) ((0 : Int), (0 : Int), (x2 : GState), (0 : Int), (0 : Int), (0 : Int), (0 : Int)) () h1 [0, 2, 3, 4] [] (fun (a : Int × Int × GState × Int × Int × Int × Int) (k : Unit) => [(5, int a.1), (6, int a.2.1)]) (fun a k => [(1, ⟨32, 10, true, true, v3, [(GState.av a.2.2.1)]⟩), (2, ⟨47, 4, true, true, v4, [[int a.2.2.2.1, int a.2.2.2.2.1, int a.2.2.2.2.2.1, int a.2.2.2.2.2.2]]⟩)]) (fun _ => rfl) ⟨leA, ?_⟩
  rintro n ⟨y0_1, y0_2, y0_3, y0_4, y0_5, y0_6, y0_7⟩ _ hm h1
  replace h1 : d_law15_ReceiveMany_L0 a1 (n + 1) y0_1 y0_2 y0_3 y0_4 y0_5 y0_6 y0_7 = some _ := h1
  rw [d_law15_ReceiveMany_L0] at h1
  refine tc tbk 2 (.mk ?_)
  refine jn h1 [0, 2, 3, 4, 5, 6] [1, 2] (fun (a : Bool) (k : Unit) => [(22, boo a)]) (fun a k => []) ⟨fun j6 h2 => ?_, ?_⟩
  refine tc tbk 3 (.mk ?_)
  refine sY (yv_len_sl rfl Tryz.underlying23 rfl (lst_len _)) ?_
  refine nb tbk h2 fun x7 h2 => ?_
  refine tr tbk 1 (.mk ?_)
  cases x7
  replace h2 := cf h2
  refine tr tbk 4 (.mk ?_)
  exact lf h2 () leA
  replace h2 := ct h2
  refine tr tbk 1 (.mk ?_)
  refine nb tbk h2 fun x8 h2 => ?_
  refine tr tbk 2 (.mk ?_)
  exact lf h2 () leA
  rintro y1_1 _ h1
  cases y1_1
  replace h1 := cf h1
  refine tc tbk 2 (.mk ?_)
  exact lf h1 () leA
  replace h1 := ct h1
  refine tc tbk 3 (.mk ?_)
  refine jn h1 [0, 2, 3, 4, 6] [] (fun (a : Int × GState × Int × Int × Int × Int) (k : Unit) => [(5, int a.1)]) (fun a k => [(1, ⟨32, 10, true, true, v3, [(GState.av a.2.1)]⟩), (2, ⟨47, 4, true, true, v4, [[int a.2.2.1, int a.2.2.2.1, int a.2.2.2.2.1, int a.2.2.2.2.2]]⟩)]) ⟨fun j9 h2 => ?_, ?_⟩
  refine tc tbk 5 (.mk ?_)
  obtain ⟨x10, e10, h2⟩ := bind_e h2
  refine sY (yv_ixT rfl Tryz.underlying23 sh3 rfl rfl e10) ?_
  refine tr tbk 1 (.mk ?_)
  obtain ⟨x11, e11, h2⟩ := bind_e h2
  refine sC cal6 (d_law00_Place_c e11) ?_
  refine tr tbk 5 (.mk ?_)
  refine ni tbk h2 fun x12 h2 => ?_
  refine tr tbk 1 (.mk ?_)
  refine ni tbk h2 fun x13 h2 => ?_
  refine ni tbk h2 fun x14 h2 => ?_
  refine tr tbk 1 (.mk ?_)
  refine ni tbk h2 fun x15 h2 => ?_
  refine ni tbk h2 fun x16 h2 => ?_
  refine tr tbk 1 (.mk ?_)
  refine ni tbk h2 fun x17 h2 => ?_
  refine ni tbk h2 fun x18 h2 => ?_
  refine ni tbk h2 fun x19 h2 => ?_
  refine tr tbk 1 (.mk ?_)
  refine ni tbk h2 fun x20 h2 => ?_
  refine ni tbk h2 fun x21 h2 => ?_
  refine sY (yv_build (cs := [int 1, int x12, int x14, int x16, int 0, int x19, int x21, int 0, .sc (.slice none 0 0)]) (ps := [(0, _), (1, _), (2, _), (3, _), (5, _), (6, _)]) rfl pl35 z35 rfl (.cons rfl (.cons rfl (.cons rfl (.cons rfl (.cons rfl (.cons rfl .nil)))))) (by kernel_rfl)) ?_
  refine sA 3 z35 fun v22 => ?_
  refine sS ⟨35, 9, true, true, v22, [[int 1, int x12, int x14, int x16, int 0, int x19, int x21, int 0, .sc (.slice none 0 0)]]⟩ sh35 ?_
  refine tr tbk 5 (.mk ?_)
  obtain ⟨x23, e23, h2⟩ := bind_e h2
  refine sY (yv_callP rfl rfl (.cons rfl (.cons rfl .nil)) cal8 (.cons (.refl _) (.cons (CvL.agg (.cons (.refl _) (.cons (.refl _) (.cons (.refl _) (.cons (.refl _) (.cons (.refl _) (.cons (.refl _) (.cons (.refl _) (.cons (.refl _) (.cons (.nil _) .nil)))))))))) .nil)) (d_receive_Do_c e23)) ?_
  refine tr tbk 3 (.mk ?_)
  refine sA 4 z32 fun v24 => ?_
  refine sS ⟨32, 10, true, true, v24, [(GState.av x23.1)]⟩ sh32 ?_
  refine tr tbk 4 (.mk ?_)
  refine jn h2 [0, 2, 3, 4, 5, 6, 8, 9, 10] [1, 2, 3, 4] (fun (a : Bool) (k : Unit) => [(58, boo a)]) (fun a k => []) ⟨fun j25 h3 => ?_, ?_⟩
  refine tc tbk 2 (.mk ?_)
  refine nb tbk h3 fun x26 h3 => ?_
  refine tr tbk 1 (.mk ?_)
  cases x26
  replace h3 := cf h3
  refine tr tbk 5 (.mk ?_)
  exact lf h3 () leA
  replace h3 := ct h3
  refine tr tbk 2 (.mk ?_)
  refine nb tbk h3 fun x27 h3 => ?_
  refine tr tbk 2 (.mk ?_)
  exact lf h3 () leA
  rintro y2_1 _ h2
  cases y2_1
  replace h2 := cf h2
  refine tc tbk 4 (.mk ?_)
  refine jn h2 [0, 2, 3, 4, 5, 6, 8, 9] [1, 2, 3, 4] (fun (a : Bool) (k : Unit) => [(74, boo a)]) (fun a k => []) ⟨fun j28 h3 => ?_, ?_⟩
  refine tc tbk 2 (.mk ?_)
  refine nb tbk h3 fun x29 h3 => ?_
  refine tr tbk 1 (.mk ?_)
  cases x29
  replace h3 := cf h3
  refine tr tbk 2 (.mk ?_)
  refine sY (yv_len_sl rfl Tryz.underlying28 rfl (lst_len _)) ?_
  refine tr tbk 1 (.mk ?_)
  refine ni tbk h3 fun x30 h3 => ?_
  refine nb tbk h3 fun x31 h3 => ?_
  refine tr tbk 2 (.mk ?_)
  cases x31
  replace h3 := cf h3
  refine tr tbk 2 (.mk ?_)
  refine sY (yv_len_sl rfl Tryz.underlying27 rfl (lst_len _)) ?_
  refine nb tbk h3 fun x32 h3 => ?_
  refine tr tbk 2 (.mk ?_)
  exact lf h3 () leA
  replace h3 := ct h3
  refine tr tbk 6 (.mk ?_)
  exact lf h3 () leA
  replace h3 := ct h3
  refine tr tbk 14 (.mk ?_)
  exact lf h3 () leA
  rintro y3_1 _ h2
  replace h2 := asrt_e h2
  obtain ⟨rfl, h2⟩ := h2
  refine tc tbk 13 (.mk ?_)
  refine nb tbk h2 fun x33 h2 => ?_
  refine tr tbk 1 (.mk ?_)
  refine jn h2 [0, 2, 3, 4, 5, 6, 8, 9] [1, 2, 3, 4] (fun (a : Int) (k : Unit) => [(11, int a)]) (fun a k => []) ⟨fun j34 h3 => ?_, ?_⟩
  cases x33
  replace h3 := cf h3
  refine tc tbk 2 (.mk ?_)
  exact lf h3 () leA
  replace h3 := ct h3
  refine tc tbk 4 (.mk ?_)
  refine ni tbk h3 fun x35 h3 => ?_
  refine tr tbk 2 (.mk ?_)
  exact lf h3 () leA
  rintro y4_1 _ h2
  refine tc tbk 1 (.mk ?_)
  obtain ⟨x36, e36, h2⟩ := bnd_e h2
  cases x36
  replace h2 := cf h2
  obtain ⟨p37, h2⟩ := asrt_e h2
  have g2 := h2
  repeat clear h2
  obtain rfl := p37
  have h2 := g2
  refine c_drawE [0, 1, 0, 4, 0, 16, 48, 112, 240, 0, 1008, 0, 2048, 6144, 14336, 30720, 0, 65536, 260096, 0, 524288, 3, 2162675, 6356979, 12, 31981567, 65535999, 134217727] (rl [(0, [3]), (1, [3]), (2, [3]), (3, [3]), (4, [3]), (5, [3]), (6, [2]), (7, [2]), (8, [2]), (11, [3]), (12, [3]), (13, [2]), (14, [2]), (15, [2]), (16, [3]), (17, [3]), (21, [2]), (22, [2]), (24, [100002]), (25, [2])] []) (rl [(23, [3, 100002]), (26, [])] [2, 3, 100002]) (rl [(23, false), (26, false)] true) [0, 1, 2, 3, 4, 5, 6, 7, 8, 9, 10, 11, 12, 13, 14, 15, 16, 17, 18, 19, 20, 21, 22, 24, 23, 25, 26, 27] mixed (by kernel_rfl) ?_; intro K hK
  refine eF fo35_1 ?_
  refine eL sh3 ?_
  refine eF fo35_1 ?_
  refine eL sh3 ?_
  refine eF fo35_1 ?_
  refine eL sh3 ?_
  refine de_pure rfl rfl rfl rfl (fun H hH => yv_to (y := .pt 2 v4 0 2) (yv_indexAddrA rfl Tryz.underlying47 sh46 rfl rfl ((hH _ (by decide)).trans rfl) rfl rfl (by decide)) rfl) ?_
  refine de_pure rfl rfl rfl rfl (fun H hH => yv_to (y := .pt 2 v4 0 2) (yv_indexAddrA rfl Tryz.underlying46 sh3 rfl rfl ((hH _ (by decide)).trans rfl) rfl rfl (by decide)) rfl) ?_
  refine eL sh3 ?_
  refine eM ?_
  obtain ⟨x38, e38, h2⟩ := bnd_e h2
  refine eP (fun H hH => yv_add rfl rfl rfl e38) ?_
  refine eF fo35_1 ?_
  refine eL sh3 ?_
  refine de_pure rfl rfl rfl rfl (fun H hH => yv_to (y := .pt 2 v4 0 2) (yv_indexAddrA rfl Tryz.underlying47 sh46 rfl rfl ((hH _ (by decide)).trans rfl) rfl rfl (by decide)) rfl) ?_
  refine de_pure rfl rfl rfl rfl (fun H hH => yv_to (y := .pt 2 v4 0 3) (yv_indexAddrA rfl Tryz.underlying46 sh3 rfl rfl ((hH _ (by decide)).trans rfl) rfl rfl (by decide)) rfl) ?_
  refine eL sh3 ?_
  refine eF fo35_6 ?_
  refine eL sh3 ?_
  obtain ⟨x39, e39, h2⟩ := bnd_e h2
  refine eP (fun H hH => yv_add rfl rfl rfl e39) ?_
  refine eM ?_
  obtain ⟨x40, e40, h2⟩ := bnd_e h2
  refine eP (fun H hH => yv_add rfl rfl rfl e40) ?_
  refine de_pure rfl rfl rfl rfl (fun H hH => yv_to (y := .pt 2 v4 0 2) (yv_indexAddrA rfl Tryz.underlying47 sh46 rfl rfl ((hH _ (by decide)).trans rfl) rfl rfl (by decide)) rfl) ?_
  refine de_pure rfl rfl rfl rfl (fun H hH => yv_to (y := .pt 2 v4 0 2) (yv_indexAddrA rfl Tryz.underlying46 sh3 rfl rfl ((hH _ (by decide)).trans rfl) rfl rfl (by decide)) rfl) ?_
  refine eI (av := .pt 2 v4 0 2) Tryz.underlying47 sh46 ?_
  refine de_eff0 rfl rfl rfl rfl (Yield.weak (yl_ob (ob' := (⟨47, 4, true, true, v4, [[int y0_4, int y0_5, int x38, int y0_7]]⟩ : AObj)) (yl_store rfl sh3 rfl rfl rfl rfl rfl rfl rfl rfl rfl) rfl) (fun _ h => h) (fun _ _ => trivial)) (by rintro _ _ ⟨rfl, rfl⟩; exact ⟨rfl, rfl, trivial⟩) ?_; rintro _ _ ⟨rfl, rfl⟩
  refine de_pure rfl rfl rfl rfl (fun H hH => yv_to (y := .pt 2 v4 0 3) (yv_indexAddrA rfl Tryz.underlying46 sh3 rfl rfl ((hH _ (by decide)).trans rfl) rfl rfl (by decide)) rfl) ?_
  refine de_eff0 rfl rfl rfl rfl (Yield.weak (yl_ob (ob' := (⟨47, 4, true, true, v4, [[int y0_4, int y0_5, int x38, int x39]]⟩ : AObj)) (yl_store rfl sh3 rfl rfl rfl rfl rfl rfl rfl rfl rfl) rfl) (fun _ h => h) (fun _ _ => trivial)) (by rintro _ _ ⟨rfl, rfl⟩; exact trivial) ?_; rintro _ _ ⟨rfl, rfl⟩
  refine eA ?_
  refine de_nil (hK _ ?_)
  refine tc tbk 2 (.mk ?_)
  refine c_drawE [0, 1, 0, 4, 15, 31, 0, 64, 0, 256, 0, 1024, 0, 4096, 0, 16384, 0, 65536, 0, 262144, 1048512, 2097151] (rl [(0, [4]), (1, [4]), (6, [3]), (7, [3]), (8, [3]), (9, [3]), (10, [3]), (11, [3]), (12, [3]), (13, [3]), (14, [3]), (15, [3]), (16, [3]), (17, [3]), (18, [3]), (19, [3])] []) (fun i => [3, 4]) (fun i => true) [0, 1, 2, 3, 4, 5, 6, 7, 8, 9, 10, 11, 12, 13, 14, 15, 16, 17, 18, 19, 20, 21] mixed (by kernel_rfl) ?_; intro K hK
  refine eF fo32_2 ?_
  refine eL sh28 ?_
  refine eM ?_
  obtain ⟨x41, e41, h2⟩ := bnd_e h2
  refine eP (fun H hH => yv_sub rfl rfl rfl e41) ?_
  obtain ⟨x42, e42, h2⟩ := bind_e h2
  refine eP (fun H hH => yv_ixT rfl Tryz.underlying28 sh49 rfl rfl e42) ?_
  refine eP (fun H hH => yv_load rfl sh49 rfl (.pp _) rfl) ?_
  refine eF fo35_1 ?_
  refine eL sh3 ?_
  refine eF fo35_2 ?_
  refine eL sh3 ?_
  refine eF fo35_3 ?_
  refine eL sh3 ?_
  refine eF fo35_5 ?_
  refine eL sh3 ?_
  refine eF fo35_6 ?_
  refine eL sh3 ?_
  refine eF fo35_5 ?_
  refine eL sh3 ?_
  refine eF fo35_6 ?_
  refine eL sh3 ?_
  refine eP (fun H hH => yv_build (cs := [int 1, int x14, int x16, int x19, int x21, int x19, int x21, int 0]) (ps := [(0, _), (1, _), (2, _), (3, _), (4, _), (5, _), (6, _)]) rfl pl49 z49 rfl (.cons rfl (.cons rfl (.cons rfl (.cons rfl (.cons rfl (.cons rfl (.cons rfl .nil))))))) (by kernel_rfl)) ?_
  obtain ⟨x43, e43, h2⟩ := bnd_e h2
  refine eP (fun H hH => yv_aneq (r' := x43) rfl fl49 rfl rfl (.cons (.int Tryz.underlying3) sh3 (.cons (.int Tryz.underlying3) sh3 (.cons (.int Tryz.underlying3) sh3 (.cons (.int Tryz.underlying3) sh3 (.cons (.int Tryz.underlying3) sh3 (.cons (.int Tryz.underlying3) sh3 (.cons (.int Tryz.underlying3) sh3 (.cons (.int Tryz.underlying3) sh3 (.nil _))))))))) ((congrArg Bool.not (GReceipt.eqv (x42 : GReceipt) ((⟨1, x14, x16, x19, x21, x19, x21, 0⟩ : GReceipt) : GReceipt))).trans e43)) ?_
  refine de_nil (hK _ ?_)
  replace h2 := asrt_e h2
  obtain ⟨rfl, h2⟩ := h2
  refine tc tbk 4 (.mk ?_)
  refine sS ⟨32, 10, true, true, v3, [(GState.av x23.1)]⟩ sh32 ?_
  refine tr tbk 2 (.mk ?_)
  exact lf h2 () leA
  replace h2 := ct h2
  have g2 := h2
  repeat clear h2
  obtain rfl := of_decide_eq_true e36
  have h2 := g2
  refine c_drawE [0, 1, 0, 4, 0, 16, 48, 112, 240, 0, 1008, 0, 2048, 6144, 14336, 30720, 0, 65536, 260096, 0, 524288, 3, 2162675, 6356979, 12, 31981567, 65535999, 134217727] (rl [(0, [3]), (1, [3]), (2, [3]), (3, [3]), (4, [3]), (5, [3]), (6, [2]), (7, [2]), (8, [2]), (11, [3]), (12, [3]), (13, [2]), (14, [2]), (15, [2]), (16, [3]), (17, [3]), (21, [2]), (22, [2]), (24, [100002]), (25, [2])] []) (rl [(23, [3, 100002]), (26, [])] [2, 3, 100002]) (rl [(23, false), (26, false)] true) [0, 1, 2, 3, 4, 5, 6, 7, 8, 9, 10, 11, 12, 13, 14, 15, 16, 17, 18, 19, 20, 21, 22, 24, 23, 25, 26, 27] mixed (by kernel_rfl) ?_; intro K hK
  refine eF fo35_1 ?_
  refine eL sh3 ?_
  refine eF fo35_1 ?_
  refine eL sh3 ?_
  refine eF fo35_1 ?_
  refine eL sh3 ?_
  refine de_pure rfl rfl rfl rfl (fun H hH => yv_to (y := .pt 2 v4 0 0) (yv_indexAddrA rfl Tryz.underlying47 sh46 rfl rfl ((hH _ (by decide)).trans rfl) rfl rfl (by decide)) rfl) ?_
  refine de_pure rfl rfl rfl rfl (fun H hH => yv_to (y := .pt 2 v4 0 0) (yv_indexAddrA rfl Tryz.underlying46 sh3 rfl rfl ((hH _ (by decide)).trans rfl) rfl rfl (by decide)) rfl) ?_
  refine eL sh3 ?_
  refine eM ?_
  obtain ⟨x44, e44, h2⟩ := bnd_e h2
  refine eP (fun H hH => yv_add rfl rfl rfl e44) ?_
  refine eF fo35_1 ?_
  refine eL sh3 ?_
  refine de_pure rfl rfl rfl rfl (fun H hH => yv_to (y := .pt 2 v4 0 0) (yv_indexAddrA rfl Tryz.underlying47 sh46 rfl rfl ((hH _ (by decide)).trans rfl) rfl rfl (by decide)) rfl) ?_
  refine de_pure rfl rfl rfl rfl (fun H hH => yv_to (y := .pt 2 v4 0 1) (yv_indexAddrA rfl Tryz.underlying46 sh3 rfl rfl ((hH _ (by decide)).trans rfl) rfl rfl (by decide)) rfl) ?_
  refine eL sh3 ?_
  refine eF fo35_6 ?_
  refine eL sh3 ?_
  obtain ⟨x45, e45, h2⟩ := bnd_e h2
  refine eP (fun H hH => yv_add rfl rfl rfl e45) ?_
  refine eM ?_
  obtain ⟨x46, e46, h2⟩ := bnd_e h2
  refine eP (fun H hH => yv_add rfl rfl rfl e46) ?_
  refine de_pure rfl rfl rfl rfl (fun H hH => yv_to (y := .pt 2 v4 0 0) (yv_indexAddrA rfl Tryz.underlying47 sh46 rfl rfl ((hH _ (by decide)).trans rfl) rfl rfl (by decide)) rfl) ?_
  refine de_pure rfl rfl rfl rfl (fun H hH => yv_to (y := .pt 2 v4 0 0) (yv_indexAddrA rfl Tryz.underlying46 sh3 rfl rfl ((hH _ (by decide)).trans rfl) rfl rfl (by decide)) rfl) ?_
  refine eI (av := .pt 2 v4 0 0) Tryz.underlying47 sh46 ?_
  refine de_eff0 rfl rfl rfl rfl (Yield.weak (yl_ob (ob' := (⟨47, 4, true, true, v4, [[int x44, int y0_5, int y0_6, int y0_7]]⟩ : AObj)) (yl_store rfl sh3 rfl rfl rfl rfl rfl rfl rfl rfl rfl) rfl) (fun _ h => h) (fun _ _ => trivial)) (by rintro _ _ ⟨rfl, rfl⟩; exact ⟨rfl, rfl, trivial⟩) ?_; rintro _ _ ⟨rfl, rfl⟩
  refine de_pure rfl rfl rfl rfl (fun H hH => yv_to (y := .pt 2 v4 0 1) (yv_indexAddrA rfl Tryz.underlying46 sh3 rfl rfl ((hH _ (by decide)).trans rfl) rfl rfl (by decide)) rfl) ?_
  refine de_eff0 rfl rfl rfl rfl (Yield.weak (yl_ob (ob' := (⟨47, 4, true, true, v4, [[int x44, int x45, int y0_6, int y0_7]]⟩ : AObj)) (yl_store rfl sh3 rfl rfl rfl rfl rfl rfl rfl rfl rfl) rfl) (fun _ h => h) (fun _ _ => trivial)) (by rintro _ _ ⟨rfl, rfl⟩; exact trivial) ?_; rintro _ _ ⟨rfl, rfl⟩
  refine eA ?_
  refine de_nil (hK _ ?_)
  refine tc tbk 2 (.mk ?_)
  refine c_drawE [0, 1, 0, 4, 15, 31, 0, 64, 0, 256, 0, 1024, 0, 4096, 0, 16384, 0, 65536, 0, 262144, 1048512, 2097151] (rl [(0, [4]), (1, [4]), (6, [3]), (7, [3]), (8, [3]), (9, [3]), (10, [3]), (11, [3]), (12, [3]), (13, [3]), (14, [3]), (15, [3]), (16, [3]), (17, [3]), (18, [3]), (19, [3])] []) (fun i => [3, 4]) (fun i => true) [0, 1, 2, 3, 4, 5, 6, 7, 8, 9, 10, 11, 12, 13, 14, 15, 16, 17, 18, 19, 20, 21] mixed (by kernel_rfl) ?_; intro K hK
  refine eF fo32_2 ?_
  refine eL sh28 ?_
  refine eM ?_
  obtain ⟨x47, e47, h2⟩ := bnd_e h2
  refine eP (fun H hH => yv_sub rfl rfl rfl e47) ?_
  obtain ⟨x48, e48, h2⟩ := bind_e h2
  refine eP (fun H hH => yv_ixT rfl Tryz.underlying28 sh49 rfl rfl e48) ?_
  refine eP (fun H hH => yv_load rfl sh49 rfl (.pp _) rfl) ?_
  refine eF fo35_1 ?_
  refine eL sh3 ?_
  refine eF fo35_2 ?_
  refine eL sh3 ?_
  refine eF fo35_3 ?_
  refine eL sh3 ?_
  refine eF fo35_5 ?_
  refine eL sh3 ?_
  refine eF fo35_6 ?_
  refine eL sh3 ?_
  refine eF fo35_5 ?_
  refine eL sh3 ?_
  refine eF fo35_6 ?_
  refine eL sh3 ?_
  refine eP (fun H hH => yv_build (cs := [int 0, int x14, int x16, int x19, int x21, int x19, int x21, int 0]) (ps := [(0, _), (1, _), (2, _), (3, _), (4, _), (5, _), (6, _)]) rfl pl49 z49 rfl (.cons rfl (.cons rfl (.cons rfl (.cons rfl (.cons rfl (.cons rfl (.cons rfl .nil))))))) (by kernel_rfl)) ?_
  obtain ⟨x49, e49, h2⟩ := bnd_e h2
  refine eP (fun H hH => yv_aneq (r' := x49) rfl fl49 rfl rfl (.cons (.int Tryz.underlying3) sh3 (.cons (.int Tryz.underlying3) sh3 (.cons (.int Tryz.underlying3) sh3 (.cons (.int Tryz.underlying3) sh3 (.cons (.int Tryz.underlying3) sh3 (.cons (.int Tryz.underlying3) sh3 (.cons (.int Tryz.underlying3) sh3 (.cons (.int Tryz.underlying3) sh3 (.nil _))))))))) ((congrArg Bool.not (GReceipt.eqv (x48 : GReceipt) ((⟨0, x14, x16, x19, x21, x19, x21, 0⟩ : GReceipt) : GReceipt))).trans e49)) ?_
  refine de_nil (hK _ ?_)
  replace h2 := asrt_e h2
  obtain ⟨rfl, h2⟩ := h2
  refine tc tbk 4 (.mk ?_)
  refine sS ⟨32, 10, true, true, v3, [(GState.av x23.1)]⟩ sh32 ?_
  refine tr tbk 2 (.mk ?_)
  exact lf h2 () leA
  replace h2 := ct h2
  refine tc tbk 2 (.mk ?_)
  exact lf h2 () leA
  rintro ⟨y5_1, y5_2, y5_3, y5_4, y5_5, y5_6⟩ _ h1
  replace h1 := p2_e h1
  replace h1 := p2_e h1
  replace h1 := p2_e h1
  replace h1 := p2_e h1
  replace h1 := p2_e h1
  refine tc tbk 2 (.mk ?_)
  refine ni tbk h1 fun x50 h1 => ?_
  refine tr tbk 2 (.mk ?_)
  exact bk (y5_1, x50, y5_2, y5_3, y5_4, y5_5, y5_6) () h1 leA
  rintro ⟨y6_1, y6_2, y6_3, y6_4, y6_5⟩ _ h0
  replace h0 := p2_e h0
  replace h0 := p2_e h0
  replace h0 := p2_e h0
  replace h0 := p2_e h0
  refine tc tbk 5 (.mk ?_)
  refine jn h0 [2] [] (fun (a : Unit) (k : Unit) => []) (fun a k => []) ⟨fun j51 h1 => ?_, ?_⟩
  refine tc tbk 1 (.mk ?_)
  refine lp (fun n (a : Int) => d_law15_ReceiveMany_L1 y6_1 y6_2 y6_3 y6_4 y6_5 n a) (0 : Int) () h1 [2, 3, 4] [1, 2] (fun (a : Int) (k : Unit) => [(12, int a)]) (fun a k => []) (fun _ => rfl) ⟨leA, ?_⟩
  rintro n y7_1 _ hm h1
  replace h1 : d_law15_ReceiveMany_L1 y6_1 y6_2 y6_3 y6_4 y6_5 (n + 1) y7_1 = some _ := h1
  rw [d_law15_ReceiveMany_L1] at h1
  refine tc tbk 4 (.mk ?_)
  refine nb tbk h1 fun x52 h1 => ?_
  refine tr tbk 1 (.mk ?_)
  cases x52
  replace h1 := cf h1
  refine tc tbk 2 (.mk ?_)
  exact lf h1 () leA
  replace h1 := ct h1
  refine tc tbk 3 (.mk ?_)
  refine jn h1 [2, 3, 4] [1, 2] (fun (a : Int) (k : Unit) => [(12, int a)]) (fun a k => []) ⟨fun j53 h2 => ?_, ?_⟩
  refine tc tbk 6 (.mk ?_)
  obtain ⟨x54, e54, h2⟩ := bind_e h2
  refine sY (yv_to (y := .pp [int x54.Now, boo x54.Closed, lst 4 GPool.av x54.Pools, lst 1 fI x54.Bal, lst 11 GRoll.av x54.Rolls, lst 1 fI x54.Prices, lst 1 fI x54.Down, lst 8 GEnt.av x54.Ahead]) (yv_ixT rfl Tryz.underlying27 sh40 rfl rfl e54) (congrArg AV.pp (GEnt.av_eq x54))) ?_
  refine tr tbk 5 (.mk ?_)
  obtain ⟨x55, e55, h2⟩ := bnd_e h2
  cases x55
  replace h2 := cf h2
  obtain ⟨p56, h2⟩ := asrt_e h2
  have g2 := h2
  repeat clear h2
  obtain rfl := p56
  have h2 := g2
  refine jn h2 [2, 3, 4, 12] [1, 2] (fun (a : Bool) (k : Unit) => [(169, boo a)]) (fun a k => []) ⟨fun j57 h3 => ?_, ?_⟩
  refine c_drawE [0, 1, 3, 0, 8, 24, 56, 127, 255, 511, 1023, 2047, 511, 4607, 12799, 29183, 61951, 131071, 262143, 524287, 1048575, 1048575, 4194303, 1048575, 9437183, 26214399, 59768831, 134217727, 268435455] (rl [(4, [2]), (5, [2]), (6, [2]), (13, [2]), (14, [2]), (15, [2]), (20, [1]), (24, [2]), (25, [2]), (26, [2])] []) (fun i => [1, 2]) (fun i => true) [0, 1, 2, 3, 4, 5, 6, 7, 8, 9, 10, 11, 12, 13, 14, 15, 16, 17, 18, 19, 20, 21, 22, 23, 24, 25, 26, 27, 28] mixed (by kernel_rfl) ?_; intro K hK
  refine eM ?_
  obtain ⟨x58, e58, h3⟩ := bind_e h3
  refine eP (fun H hH => yv_ixT rfl Tryz.underlying23 sh3 rfl rfl e58) ?_
  refine eP (fun H hH => yv_load rfl sh3 rfl (.pp _) rfl) ?_
  refine eM ?_
  refine de_pure rfl rfl rfl rfl (fun H hH => yv_to (y := .pt 2 v4 0 2) (yv_indexAddrA rfl Tryz.underlying47 sh46 rfl rfl ((hH _ (by decide)).trans rfl) rfl rfl (by decide)) rfl) ?_
  refine de_pure rfl rfl rfl rfl (fun H hH => yv_to (y := .pt 2 v4 0 2) (yv_indexAddrA rfl Tryz.underlying46 sh3 rfl rfl ((hH _ (by decide)).trans rfl) rfl rfl (by decide)) rfl) ?_
  refine eL sh3 ?_
  obtain ⟨x59, e59, h3⟩ := bnd_e h3
  refine eP (fun H hH => yv_to (y := boo x59) (yv_neq rfl rfl rfl) (congrArg boo e59)) ?_
  refine eM ?_
  cases x59
  replace h3 := cf h3
  refine eM ?_
  obtain ⟨x60, e60, h3⟩ := bind_e h3
  refine eP (fun H hH => yv_ixT rfl Tryz.underlying23 sh3 rfl rfl e60) ?_
  refine eP (fun H hH => yv_load rfl sh3 rfl (.pp _) rfl) ?_
  refine eM ?_
  refine de_pure rfl rfl rfl rfl (fun H hH => yv_to (y := .pt 2 v4 0 2) (yv_indexAddrA rfl Tryz.underlying47 sh46 rfl rfl ((hH _ (by decide)).trans rfl) rfl rfl (by decide)) rfl) ?_
  refine de_pure rfl rfl rfl rfl (fun H hH => yv_to (y := .pt 2 v4 0 3) (yv_indexAddrA rfl Tryz.underlying46 sh3 rfl rfl ((hH _ (by decide)).trans rfl) rfl rfl (by decide)) rfl) ?_
  refine eL sh3 ?_
  obtain ⟨x61, e61, h3⟩ := bnd_e h3
  refine eP (fun H hH => yv_neg rfl rfl e61) ?_
  obtain ⟨x62, e62, h3⟩ := bnd_e h3
  refine eP (fun H hH => yv_to (y := boo x62) (yv_neq rfl rfl rfl) (congrArg boo e62)) ?_
  refine eP (fun H hH => yv_pick rfl rfl (fun _ => rfl) (fun _ => rfl) rfl) ?_
  refine eM ?_
  cases x62
  replace h3 := cf h3
  refine eL sh32 ?_
  refine eM ?_
  obtain ⟨x63, e63, h3⟩ := bind_e h3
  refine eP (fun H hH => yv_callP rfl rfl (.cons rfl (.cons rfl .nil)) cal11 (CvL.refl _) (d_ref14_All_c e63)) ?_
  refine eM ?_
  refine de_pure rfl rfl rfl rfl (fun H hH => yv_to (y := .pt 2 v4 0 2) (yv_indexAddrA rfl Tryz.underlying47 sh46 rfl rfl ((hH _ (by decide)).trans rfl) rfl rfl (by decide)) rfl) ?_
  refine de_pure rfl rfl rfl rfl (fun H hH => yv_to (y := .pt 2 v4 0 2) (yv_indexAddrA rfl Tryz.underlying46 sh3 rfl rfl ((hH _ (by decide)).trans rfl) rfl rfl (by decide)) rfl) ?_
  refine eL sh3 ?_
  obtain ⟨x64, e64, h3⟩ := bnd_e h3
  refine eP (fun H hH => yv_to (y := boo x64) (yv_neq rfl rfl rfl) (congrArg boo e64)) ?_
  refine eP (fun H hH => yv_pick rfl rfl (fun _ => rfl) (fun _ => rfl) rfl) ?_
  refine de_nil (hK _ ?_)
  exact lf h3 () leA
  replace h3 := ct h3
  refine de_skip rfl rfl rfl ?_
  refine de_skip rfl rfl rfl ?_
  refine de_skip rfl rfl rfl ?_
  refine de_skip rfl rfl rfl ?_
  refine de_skip rfl rfl rfl ?_
  refine de_skip rfl rfl rfl ?_
  refine de_skip rfl rfl rfl ?_
  refine de_skip rfl rfl rfl ?_
  refine eP (fun H hH => yv_pick rfl rfl (fun _ => rfl) (fun _ => rfl) rfl) ?_
  refine de_nil (hK _ ?_)
  exact lf h3 () leA
  replace h3 := ct h3
  refine de_skip rfl rfl rfl ?_
  refine de_skip rfl rfl rfl ?_
  refine de_skip rfl rfl rfl ?_
  refine de_skip rfl rfl rfl ?_
  refine de_skip rfl rfl rfl ?_
  refine de_skip rfl rfl rfl ?_
  refine de_skip rfl rfl rfl ?_
  refine de_skip rfl rfl rfl ?_
  refine de_skip rfl rfl rfl ?_
  refine eP (fun H hH => yv_pick rfl rfl (fun _ => rfl) (fun _ => rfl) rfl) ?_
  refine eM ?_
  refine de_skip rfl rfl rfl ?_
  refine de_skip rfl rfl rfl ?_
  refine de_skip rfl rfl rfl ?_
  refine de_skip rfl rfl rfl ?_
  refine de_skip rfl rfl rfl ?_
  refine de_skip rfl rfl rfl ?_
  refine de_skip rfl rfl rfl ?_
  refine de_skip rfl rfl rfl ?_
  refine eP (fun H hH => yv_pick rfl rfl (fun _ => rfl) (fun _ => rfl) rfl) ?_
  refine de_nil (hK _ ?_)
  exact lf h3 () leA
  rintro y8_1 _ h2
  replace h2 := asrt_e h2
  obtain ⟨rfl, h2⟩ := h2
  refine tc tbk 3 (.mk ?_)
  exact lf h2 () leA
  replace h2 := ct h2
  have g2 := h2
  repeat clear h2
  obtain rfl := of_decide_eq_true e55
  have h2 := g2
  refine jn h2 [2, 3, 4, 12] [1, 2] (fun (a : Bool) (k : Unit) => [(169, boo a)]) (fun a k => []) ⟨fun j65 h3 => ?_, ?_⟩
  refine c_drawE [0, 1, 3, 0, 8, 24, 56, 127, 255, 511, 1023, 2047, 511, 4607, 12799, 29183, 61951, 131071, 262143, 524287, 1048575, 1048575, 4194303, 1048575, 9437183, 26214399, 59768831, 134217727, 268435455] (rl [(4, [2]), (5, [2]), (6, [2]), (13, [2]), (14, [2]), (15, [2]), (20, [1]), (24, [2]), (25, [2]), (26, [2])] []) (fun i => [1, 2]) (fun i => true) [0, 1, 2, 3, 4, 5, 6, 7, 8, 9, 10, 11, 12, 13, 14, 15, 16, 17, 18, 19, 20, 21, 22, 23, 24, 25, 26, 27, 28] mixed (by kernel_rfl) ?_; intro K hK
  refine eM ?_
  obtain ⟨x66, e66, h3⟩ := bind_e h3
  refine eP (fun H hH => yv_ixT rfl Tryz.underlying23 sh3 rfl rfl e66) ?_
  refine eP (fun H hH => yv_load rfl sh3 rfl (.pp _) rfl) ?_
  refine eM ?_
  refine de_pure rfl rfl rfl rfl (fun H hH => yv_to (y := .pt 2 v4 0 0) (yv_indexAddrA rfl Tryz.underlying47 sh46 rfl rfl ((hH _ (by decide)).trans rfl) rfl rfl (by decide)) rfl) ?_
  refine de_pure rfl rfl rfl rfl (fun H hH => yv_to (y := .pt 2 v4 0 0) (yv_indexAddrA rfl Tryz.underlying46 sh3 rfl rfl ((hH _ (by decide)).trans rfl) rfl rfl (by decide)) rfl) ?_
  refine eL sh3 ?_
  obtain ⟨x67, e67, h3⟩ := bnd_e h3
  refine eP (fun H hH => yv_to (y := boo x67) (yv_neq rfl rfl rfl) (congrArg boo e67)) ?_
  refine eM ?_
  cases x67
  replace h3 := cf h3
  refine eM ?_
  obtain ⟨x68, e68, h3⟩ := bind_e h3
  refine eP (fun H hH => yv_ixT rfl Tryz.underlying23 sh3 rfl rfl e68) ?_
  refine eP (fun H hH => yv_load rfl sh3 rfl (.pp _) rfl) ?_
  refine eM ?_
  refine de_pure rfl rfl rfl rfl (fun H hH => yv_to (y := .pt 2 v4 0 0) (yv_indexAddrA rfl Tryz.underlying47 sh46 rfl rfl ((hH _ (by decide)).trans rfl) rfl rfl (by decide)) rfl) ?_
  refine de_pure rfl rfl rfl rfl (fun H hH => yv_to (y := .pt 2 v4 0 1) (yv_indexAddrA rfl Tryz.underlying46 sh3 rfl rfl ((hH _ (by decide)).trans rfl) rfl rfl (by decide)) rfl) ?_
  refine eL sh3 ?_
  obtain ⟨x69, e69, h3⟩ := bnd_e h3
  refine eP (fun H hH => yv_neg rfl rfl e69) ?_
  obtain ⟨x70, e70, h3⟩ := bnd_e h3
  refine eP (fun H hH => yv_to (y := boo x70) (yv_neq rfl rfl rfl) (congrArg boo e70)) ?_
  refine eP (fun H hH => yv_pick rfl rfl (fun _ => rfl) (fun _ => rfl) rfl) ?_
  refine eM ?_
  cases x70
  replace h3 := cf h3
  refine eL sh32 ?_
  refine eM ?_
  obtain ⟨x71, e71, h3⟩ := bind_e h3
  refine eP (fun H hH => yv_callP rfl rfl (.cons rfl (.cons rfl .nil)) cal11 (CvL.refl _) (d_ref14_All_c e71)) ?_
  refine eM ?_
  refine de_pure rfl rfl rfl rfl (fun H hH => yv_to (y := .pt 2 v4 0 0) (yv_indexAddrA rfl Tryz.underlying47 sh46 rfl rfl ((hH _ (by decide)).trans rfl) rfl rfl (by decide)) rfl) ?_
  refine de_pure rfl rfl rfl rfl (fun H hH => yv_to (y := .pt 2 v4 0 0) (yv_indexAddrA rfl Tryz.underlying46 sh3 rfl rfl ((hH _ (by decide)).trans rfl) rfl rfl (by decide)) rfl) ?_
  refine eL sh3 ?_
  obtain ⟨x72, e72, h3⟩ := bnd_e h3
  refine eP (fun H hH => yv_to (y := boo x72) (yv_neq rfl rfl rfl) (congrArg boo e72)) ?_
  refine eP (fun H hH => yv_pick rfl rfl (fun _ => rfl) (fun _ => rfl) rfl) ?_
  refine de_nil (hK _ ?_)
  exact lf h3 () leA
  replace h3 := ct h3
  refine de_skip rfl rfl rfl ?_
  refine de_skip rfl rfl rfl ?_
  refine de_skip rfl rfl rfl ?_
  refine de_skip rfl rfl rfl ?_
  refine de_skip rfl rfl rfl ?_
  refine de_skip rfl rfl rfl ?_
  refine de_skip rfl rfl rfl ?_
  refine de_skip rfl rfl rfl ?_
  refine eP (fun H hH => yv_pick rfl rfl (fun _ => rfl) (fun _ => rfl) rfl) ?_
  refine de_nil (hK _ ?_)
  exact lf h3 () leA
  replace h3 := ct h3
  refine de_skip rfl rfl rfl ?_
  refine de_skip rfl rfl rfl ?_
  refine de_skip rfl rfl rfl ?_
  refine de_skip rfl rfl rfl ?_
  refine de_skip rfl rfl rfl ?_
  refine de_skip rfl rfl rfl ?_
  refine de_skip rfl rfl rfl ?_
  refine de_skip rfl rfl rfl ?_
  refine de_skip rfl rfl rfl ?_
  refine eP (fun H hH => yv_pick rfl rfl (fun _ => rfl) (fun _ => rfl) rfl) ?_
  refine eM ?_
  refine de_skip rfl rfl rfl ?_
  refine de_skip rfl rfl rfl ?_
  refine de_skip rfl rfl rfl ?_
  refine de_skip rfl rfl rfl ?_
  refine de_skip rfl rfl rfl ?_
  refine de_skip rfl rfl rfl ?_
  refine de_skip rfl rfl rfl ?_
  refine de_skip rfl rfl rfl ?_
  refine eP (fun H hH => yv_pick rfl rfl (fun _ => rfl) (fun _ => rfl) rfl) ?_
  refine de_nil (hK _ ?_)
  exact lf h3 () leA
  rintro y8_1 _ h2
  replace h2 := asrt_e h2
  obtain ⟨rfl, h2⟩ := h2
  refine tc tbk 3 (.mk ?_)
  exact lf h2 () leA
  rintro y9_1 _ h1
  refine tc tbk 2 (.mk ?_)
  refine ni tbk h1 fun x73 h1 => ?_
  refine tr tbk 2 (.mk ?_)
  exact bk x73 () h1 leA
  rintro _ _ h0
  refine tc tbk 2 (.mk ?_)
  obtain ⟨x74, e74, h0⟩ := bind_e h0
  refine sC cal10 (d_law15_awake_c e74) ?_
  refine tr tbk 2 (.mk ?_)
  obtain rfl := nxt_e h0
  refine wR hret (rT .nil) ?_
  exact .refl _
end Go.Pv
