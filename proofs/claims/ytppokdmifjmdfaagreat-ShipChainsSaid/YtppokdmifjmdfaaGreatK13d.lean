import Derived.Test.YtppokdmifjmdfaaGreatK13c
set_option linter.unusedVariables false
namespace Go.Pv
open Go.Proofs
set_option maxRecDepth 10000
set_option maxHeartbeats 1000000
def d_stdcost_Out_L0 : Nat → Nat → Nat → Int → (List GLayer) → GLayer → Option (Nat × Nat × (List GLayer) × GLayer)
  | 0, _, _, _, _, _ => none
  | n + 1, y1_1, y1_2, y1_3, y1_4, y1_5 =>
    (show Option (Bool) from
    bnd (decide ((y1_2 : Int) > 0)) fun x21 =>
    cond x21 (bnd (decide (y1_3 > 0)) fun x22 =>
    some (x22 : Bool)) (some (false : Bool))).bind <| fun y2_1 =>
    cond y2_1 (asrt ((0 : Int) ≤ 0 ∧ 0 < (y1_2 : Int)) <|
    (ix y1_4 (((y1_1 : Nat) : Int) + 0)).bind fun x24 =>
    bnd (decide (x24.Qty > y1_3)) fun x26 =>
    (show Option (Nat × Nat × (List GLayer) × GLayer) from
    cond x26 ((d_money_Part n x24.Value y1_3 x24.Qty).bind fun x30 =>
    (d_money_Part n x24.Profit y1_3 x24.Qty).bind fun x31 =>
    asrt ((0 : Int) ≤ 0 ∧ 0 < (y1_2 : Int)) <|
    bnd (w64 (x24.Qty - y1_3)) fun x33 =>
    asrt ((0 : Int) ≤ 0 ∧ 0 < (y1_2 : Int)) <|
    bnd (w64 (x24.Value - x30)) fun x35 =>
    asrt ((0 : Int) ≤ 0 ∧ 0 < (y1_2 : Int)) <|
    bnd (w64 (x24.Profit - x31)) fun x37 =>
    asrt ((0 : Int) ≤ 0 ∧ 0 < (y1_2 : Int)) <|
    bnd (y1_4.set (Int.toNat (((y1_1 : Nat) : Int) + 0)) ((⟨x33, x24.Value, x24.Profit⟩ : GLayer) : GLayer)) fun x39 =>
    asrt ((0 : Int) ≤ 0 ∧ 0 < (y1_2 : Int)) <|
    bnd (x39.set (Int.toNat (((y1_1 : Nat) : Int) + 0)) ((⟨x33, x35, x24.Profit⟩ : GLayer) : GLayer)) fun x41 =>
    asrt ((0 : Int) ≤ 0 ∧ 0 < (y1_2 : Int)) <|
    bnd (x41.set (Int.toNat (((y1_1 : Nat) : Int) + 0)) ((⟨x33, x35, x37⟩ : GLayer) : GLayer)) fun x43 =>
    some ((y1_1 : Nat), (y1_2 : Nat), (x43 : List GLayer), ((⟨y1_3, x30, x31⟩ : GLayer) : GLayer))) (asrt ((0 : Int) ≤ 1 ∧ 1 ≤ (y1_2 : Int) ∧ (y1_2 : Int) ≤ (y1_2 : Int) ∧ 1 < (y1_2 + 1 : Int)) <|
    bnd (if (Int.toNat (y1_2 : Int)) = 1 then y1_1 else y1_1 + 1) fun x29 =>
    some ((x29 : Nat), (((Int.toNat (y1_2 : Int)) - 1) : Nat), (y1_4 : List GLayer), (x24 : GLayer)))).bind <| p2 fun (y3_1 : Nat) (q0 : Nat × (List GLayer) × GLayer) => (p2 fun (y3_2 : Nat) (q1 : (List GLayer) × GLayer) => (p2 fun (y3_3 : List GLayer) (y3_4 : GLayer) =>
    bnd (w64 (y1_5.Qty + y3_4.Qty)) fun x44 =>
    bnd (w64 (y1_5.Value + y3_4.Value)) fun x45 =>
    bnd (w64 (y1_5.Profit + y3_4.Profit)) fun x46 =>
    bnd (w64 (y1_3 - y3_4.Qty)) fun x47 =>
    d_stdcost_Out_L0 n (y3_1 : Nat) (y3_2 : Nat) (x47 : Int) (y3_3 : List GLayer) ((⟨x44, x45, x46⟩ : GLayer) : GLayer)) q1) q0) (some ((y1_1 : Nat), (y1_2 : Nat), (y1_4 : List GLayer), (y1_5 : GLayer)))
def d_stdcost_Out (n : Nat) (a1 : List GLayer) (a2 : Int) (a3 : Int) : Option ((List GLayer) × GLayer × Int) :=
(d_stdcost_rate_fits a3).bind fun x5 =>
bnd (!x5) fun x6 =>
cond x6 (asrt (a1.length ≤ 68719476736) <|
some ((a1 : List GLayer), ((⟨0, 0, 0⟩ : GLayer) : GLayer), (1 : Int))) ((show Option ((Nat × Nat × GLayer × Int × (List GLayer))) from
(show Option ((Unit)) from
some ()).bind <| fun _ =>
(show Option ((Nat × Nat × GLayer × Int × (List GLayer))) from
asrt (a1.length ≤ 68719476736) <|
bnd (decide (a2 < 1)) fun x15 =>
cond x15 (some ((0 : Nat), (a1.length : Nat), ((⟨0, 0, 0⟩ : GLayer) : GLayer), (1 : Int), (a1 : List GLayer))) ((d_fifo_has n a1 a2).bind fun x16 =>
bnd (!x16) fun x17 =>
cond x17 (some ((0 : Nat), (a1.length : Nat), ((⟨0, 0, 0⟩ : GLayer) : GLayer), (5 : Int), (a1 : List GLayer))) ((show Option (Nat × Nat × (List GLayer) × GLayer) from
d_stdcost_Out_L0 n (0 : Nat) (a1.length : Nat) (a2 : Int) (a1 : List GLayer) ((⟨0, 0, 0⟩ : GLayer) : GLayer)).bind <| p2 fun (y4_1 : Nat) (q0 : Nat × (List GLayer) × GLayer) => (p2 fun (y4_2 : Nat) (q1 : (List GLayer) × GLayer) => (p2 fun (y4_3 : List GLayer) (y4_4 : GLayer) =>
some ((y4_1 : Nat), (y4_2 : Nat), (y4_4 : GLayer), (0 : Int), (y4_3 : List GLayer))) q1) q0))).bind <| p2 fun (y5_2 : Nat) (q0 : Nat × GLayer × Int × (List GLayer)) => (p2 fun (y5_3 : Nat) (q1 : GLayer × Int × (List GLayer)) => (p2 fun (y5_4 : GLayer) (q2 : Int × (List GLayer)) => (p2 fun (y5_5 : Int) (y5_6 : List GLayer) =>
some ((y5_2 : Nat), (y5_3 : Nat), (y5_4 : GLayer), (y5_5 : Int), (y5_6 : List GLayer))) q2) q1) q0).bind <| p2 fun (y6_2 : Nat) (q0 : Nat × GLayer × Int × (List GLayer)) => (p2 fun (y6_3 : Nat) (q1 : GLayer × Int × (List GLayer)) => (p2 fun (y6_4 : GLayer) (q2 : Int × (List GLayer)) => (p2 fun (y6_5 : Int) (y6_6 : List GLayer) =>
(show Option (Bool) from
bnd (decide (y6_5 ≠ 0)) fun x50 =>
cond x50 (some (true : Bool)) (bnd (decide ((y6_3 : Int) = 0)) fun x51 =>
some (x51 : Bool))).bind <| fun y7_1 =>
cond y7_1 (asrt (y6_2 + y6_3 ≤ y6_6.length) <|
some (((((y6_6).drop y6_2).take y6_3) : List GLayer), (y6_4 : GLayer), (y6_5 : Int))) ((d_stdcost_rate_of n a3 a2).bind fun x52 =>
asrt ((0 : Int) ≤ 0 ∧ 0 < (y6_3 : Int)) <|
(ix y6_6 (((y6_2 : Nat) : Int) + 0)).bind fun x54 =>
bnd (w64 (x54.Value + y6_4.Value)) fun x55 =>
(show Option (Bool) from
bnd (decide (x52.2 ≠ 0)) fun x57 =>
cond x57 (some (true : Bool)) (bnd (decide (x52.1 > x55)) fun x58 =>
some (x58 : Bool))).bind <| fun y8_1 =>
(show Option (Int) from
cond y8_1 (some (x55 : Int)) (some (x52.1 : Int))).bind <| fun y9_1 =>
asrt ((0 : Int) ≤ 0 ∧ 0 < (y6_3 : Int)) <|
bnd (w64 (y6_4.Value - y9_1)) fun x61 =>
bnd (w64 (x54.Value + x61)) fun x62 =>
asrt ((0 : Int) ≤ 0 ∧ 0 < (y6_3 : Int)) <|
bnd (y6_6.set (Int.toNat (((y6_2 : Nat) : Int) + 0)) ((⟨x54.Qty, x62, x54.Profit⟩ : GLayer) : GLayer)) fun x64 =>
asrt (y6_2 + y6_3 ≤ x64.length) <|
some (((((x64).drop y6_2).take y6_3) : List GLayer), ((⟨y6_4.Qty, y9_1, y6_4.Profit⟩ : GLayer) : GLayer), (0 : Int)))) q2) q1) q0)
theorem d_stdcost_Out_c {n : Nat} {a1 : List GLayer} {a2 : Int} {a3 : Int} {r : (List GLayer) × GLayer × Int} (h0 : d_stdcost_Out n a1 a2 a3 = some r) : PP Tryz.prog 282 [lst 3 GLayer.av a1, int a2, int a3] (fun y => y = .tup [lst 3 GLayer.av r.1, .agg (GLayer.av r.2.1), int r.2.2]) := by
  unfold d_stdcost_Out at h0
  refine pp_of_pc (R0 := fun y H => Cv (frzH H) y (.tup [lst 3 GLayer.av r.1, .agg (GLayer.av r.2.1), int r.2.2])) ?_ (fun y H hc => ⟨_, rfl, .tup (pvl3 ((pvLs GLayer.pvc) (r.1)) ((fun (a : GLayer) => PV.agg (GLayer.pvc a)) (r.2.1)) (pvI (r.2.2))), hc⟩)
  refine pcw (c := _) Tryz.func282 rfl rfl ?_; intro Q hret hnorm
  refine tc tbk 3 (.mk ?_)
  refine sA 1 z50 fun v4 => ?_
  refine tr tbk 6 (.mk ?_)
  obtain ⟨x5, e5, h0⟩ := bind_e h0
  refine sC cal175 (d_stdcost_rate_fits_c e5) ?_
  refine nb tbk h0 fun x6 h0 => ?_
  refine tr tbk 1 (.mk ?_)
  cases x6
  replace h0 := cf h0
  refine tc tbk 6 (.mk ?_)
  obtain ⟨j7, h1, h0⟩ := bind_e h0
  refine rse (Out := fun y H' => (∃ (a : Nat × Nat × GLayer × Int × (List GLayer)) (k : Nat), a = j7 ∧ y = .tup [.sl 6 k a.1 a.2.1, .agg [int a.2.2.1.Qty, int a.2.2.1.Value, int a.2.2.1.Profit], int a.2.2.2.1] ∧ H' = hk [(1, ⟨50, 3, true, true, v4, [[int 0, int 0, int 0]]⟩), (6, ⟨50, 3, true, true, k, a.2.2.2.2.map GLayer.av⟩)])) rfl rfl rfl (yl_call rfl rfl (.cons rfl (.cons rfl .nil)) cal273 ?_) ?_
  refine pcw (c := _) Tryz.func273 rfl rfl ?_; intro Q hret hnorm
  refine tc tbk 3 (.mk ?_)
  refine sA 3 z50 fun v8 => ?_
  refine tr tbk 4 (.mk ?_)
  obtain ⟨j9, h2, h1⟩ := bind_e h1
  refine rse (Out := fun y H' => (∃ (a : Unit) (k : Unit), a = j9 ∧ y = .agg [.fn (.func 267) [] [], .fn (.func 268) [] [], .fn (.func 99) [] []] ∧ H' = hk [(1, ⟨50, 3, true, true, v4, [[int 0, int 0, int 0]]⟩), (3, ⟨50, 3, true, true, v8, [[int 0, int 0, int 0]]⟩)])) rfl rfl rfl (yl_call rfl rfl .nil cal274 ?_) ?_
  refine pcw (c := _) Tryz.func274 rfl rfl ?_; intro Q hret hnorm
  refine tc tbk 2 (.mk ?_)
  refine sA 4 z277 fun v10 => ?_
  refine tr tbk 4 (.mk ?_)
  refine sS ⟨277, 3, true, true, v10, [[.fn (.func 267) [] [], .fn (.func 268) [] [], .fn (.func 99) [] []]]⟩ sh277 ?_
  refine tr tbk 1 (.mk ?_)
  obtain rfl := nxt_e h2
  refine w_ret (hret _ _ (hk [(1, ⟨50, 3, true, true, v4, [[int 0, int 0, int 0]]⟩), (3, ⟨50, 3, true, true, v8, [[int 0, int 0, int 0]]⟩)]) (.cell rfl (.pt rfl rfl rfl) sh277 rfl .nil) (HK.le ⟨rfl, rfl, trivial⟩) ?_)
  exact ⟨(), (), rfl, rfl, rfl⟩
  rintro y _ ⟨_, _, rfl, hc, rfl⟩
  subst hc
  refine tr tbk 3 (.mk ?_)
  obtain ⟨j11, h2, h1⟩ := bind_e h1
  refine rse (Out := fun y H' => (∃ (a : Nat × Nat × GLayer × Int × (List GLayer)) (k : Nat), a = j11 ∧ y = .tup [.sl 6 k a.1 a.2.1, .agg [int a.2.2.1.Qty, int a.2.2.1.Value, int a.2.2.1.Profit], int a.2.2.2.1] ∧ H' = hk [(1, ⟨50, 3, true, true, v4, [[int 0, int 0, int 0]]⟩), (3, ⟨50, 3, true, true, v8, [[int 0, int 0, int 0]]⟩), (6, ⟨50, 3, true, true, k, a.2.2.2.2.map GLayer.av⟩)])) rfl rfl rfl (yl_call rfl rfl (.cons rfl (.cons rfl .nil)) cal268 ?_) ?_
  refine pcw (c := _) Tryz.func268 rfl rfl ?_; intro Q hret hnorm
  refine tc tbk 3 (.mk ?_)
  refine sA 5 z50 fun v12 => ?_
  refine tr tbk 5 (.mk ?_)
  obtain ⟨p13, h2⟩ := asrt_e h2
  refine rse rfl rfl rfl (yl_call rfl rfl (.cons rfl .nil) cal59 (pc_cv (clone59_c (id := 6) (l := a1) rfl p13) (.cons (.refl _) .nil))) ?_; rintro _ _ ⟨v14, rfl, rfl⟩
  refine tr tbk 6 (.mk ?_)
  refine nb tbk h2 fun x15 h2 => ?_
  refine tr tbk 1 (.mk ?_)
  cases x15
  replace h2 := cf h2
  refine tc tbk 7 (.mk ?_)
  obtain ⟨x16, e16, h2⟩ := bind_e h2
  refine sY (yv_callT (v := boo x16) rfl rfl (.cons rfl (.cons rfl .nil)) cal269 (.cons (cv_lst rfl rfl rfl rfl rfl (Eq.symm rfl)) (.cons (.refl _) .nil)) (d_fifo_has_c e16) rfl) ?_
  refine nb tbk h2 fun x17 h2 => ?_
  refine tr tbk 1 (.mk ?_)
  cases x17
  replace h2 := cf h2
  refine tc tbk 4 (.mk ?_)
  refine sA 7 z50 fun v18 => ?_
  refine tr tbk 2 (.mk ?_)
  refine jn h2 [4, 5, 6, 7] [1, 3, 5] (fun (a : Nat × Nat × (List GLayer) × GLayer) (k : Unit) => [(0, .sl 6 v14 a.1 a.2.1)]) (fun a k => [(6, ⟨50, 3, true, true, v14, a.2.2.1.map GLayer.av⟩), (7, ⟨50, 3, true, true, v18, [[int a.2.2.2.Qty, int a.2.2.2.Value, int a.2.2.2.Profit]]⟩)]) ⟨fun j19 h3 => ?_, ?_⟩
  refine tc tbk 1 (.mk ?_)
  refine lp (fun n (a : Nat × Nat × Int × (List GLayer) × GLayer) => d_stdcost_Out_L0 n a.1 a.2.1 a.2.2.1 a.2.2.2.1 a.2.2.2.2) ((0 : Nat), (a1.length : Nat), (a2 : Int), (a1 : List GLayer), ((⟨0, 0, 0⟩ : GLayer) : GLayer)) () h3 [4, 5, 6, 7] [1, 3, 5] (fun (a : Nat × Nat × Int × (List GLayer) × GLayer) (k : Unit) => [(0, .sl 6 v14 a.1 a.2.1), (1, int a.2.2.1)]) (fun a k => [(6, ⟨50, 3, true, true, v14, a.2.2.2.1.map GLayer.av⟩), (7, ⟨50, 3, true, true, v18, [[int a.2.2.2.2.Qty, int a.2.2.2.2.Value, int a.2.2.2.2.Profit]]⟩)]) (fun _ => rfl) ⟨leA, ?_⟩
  rintro n ⟨y1_1, y1_2, y1_3, y1_4, y1_5⟩ _ hm h3
  replace h3 : d_stdcost_Out_L0 (n + 1) y1_1 y1_2 y1_3 y1_4 y1_5 = some _ := h3
  rw [d_stdcost_Out_L0] at h3
  refine tc tbk 2 (.mk ?_)
  refine jn h3 [0, 1, 4, 5, 6, 7] [1, 3, 5, 6, 7] (fun (a : Bool) (k : Unit) => [(27, boo a)]) (fun a k => []) ⟨fun j20 h4 => ?_, ?_⟩
  refine tc tbk 2 (.mk ?_)
  refine sY (yv_len_sl rfl Tryz.underlying39 rfl (.sl rfl rfl)) ?_
  refine nb tbk h4 fun x21 h4 => ?_
  refine tr tbk 1 (.mk ?_)
  cases x21
  replace h4 := cf h4
  refine tr tbk 4 (.mk ?_)
  exact lf h4 () leA
  replace h4 := ct h4
  refine tr tbk 1 (.mk ?_)
  refine nb tbk h4 fun x22 h4 => ?_
  refine tr tbk 2 (.mk ?_)
  exact lf h4 () leA
  rintro y2_1 _ h3
  cases y2_1
  replace h3 := cf h3
  refine tc tbk 2 (.mk ?_)
  exact lf h3 () leA
  replace h3 := ct h3
  refine tc tbk 6 (.mk ?_)
  obtain ⟨p23, h3⟩ := asrt_e h3
  obtain ⟨x24, e24, h3⟩ := bind_e h3
  refine sY (yv_ixW rfl Tryz.underlying39 sh50 rfl rfl rfl rfl rfl p23 (List.length_map _) e24) ?_
  refine sY (yv_load rfl sh50 rfl (.pt rfl rfl (ix_get e24)) rfl) ?_
  refine sA 8 z50 fun v25 => ?_
  refine sS ⟨50, 3, true, true, v25, [[int x24.Qty, int x24.Value, int x24.Profit]]⟩ sh50 ?_
  refine tr tbk 7 (.mk ?_)
  refine nb tbk h3 fun x26 h3 => ?_
  refine tr tbk 1 (.mk ?_)
  refine jn h3 [1, 4, 5, 6, 7, 8] [1, 3, 5, 7] (fun (a : Nat × Nat × (List GLayer) × GLayer) (k : Unit) => [(0, .sl 6 v14 a.1 a.2.1)]) (fun a k => [(6, ⟨50, 3, true, true, v14, a.2.2.1.map GLayer.av⟩), (8, ⟨50, 3, true, true, v25, [[int a.2.2.2.Qty, int a.2.2.2.Value, int a.2.2.2.Profit]]⟩)]) ⟨fun j27 h4 => ?_, ?_⟩
  cases x26
  replace h4 := cf h4
  refine tc tbk 4 (.mk ?_)
  refine sY (yv_len_sl rfl Tryz.underlying39 rfl (.sl rfl rfl)) ?_
  refine tr tbk 1 (.mk ?_)
  refine sY (yv_len_sl rfl Tryz.underlying39 rfl (.sl rfl rfl)) ?_
  obtain ⟨p28, h4⟩ := asrt_e h4
  obtain ⟨x29, e29, h4⟩ := bnd_e h4
  refine sY (yv_slO3 (len := y1_2) (i := 1) (j := (Int.toNat (y1_2 : Int))) rfl Tryz.underlying39 sh50 rfl rfl rfl rfl (.yes rfl (by first | omega | (dsimp only; omega) | (dsimp only at *; omega))) (.yes rfl (by first | omega | (dsimp only; omega) | (dsimp only at *; omega))) (.yes rfl (by first | omega | (dsimp only; omega) | (dsimp only at *; omega))) (by first | omega | (dsimp only; omega) | (dsimp only at *; omega)) (by first | omega | (dsimp only; omega) | (dsimp only at *; omega)) e29) ?_
  refine tr tbk 2 (.mk ?_)
  exact lf h4 () leA
  replace h4 := ct h4
  refine tc tbk 2 (.mk ?_)
  refine c_drawE [0, 0, 2, 0, 0, 16, 62, 0, 128, 0, 0, 1024, 4094, 8191, 16383] (rl [(1, [8]), (2, [8]), (4, [8]), (5, [8]), (7, [8]), (8, [8]), (10, [8]), (11, [8])] []) (rl [(14, [])] [8]) (rl [(14, false)] true) [0, 1, 2, 3, 4, 5, 6, 7, 8, 9, 10, 11, 12, 13, 14] mixed (by kernel_rfl) ?_; intro K hK
  refine eM ?_
  refine eF fo50_1 ?_
  refine eL sh3 ?_
  refine eM ?_
  refine eF fo50_0 ?_
  refine eL sh3 ?_
  obtain ⟨x30, e30, h4⟩ := bind_e h4
  refine eP (fun H hH => yv_callP rfl rfl (.cons rfl (.cons rfl (.cons rfl .nil))) cal86 (CvL.refl _) (d_money_Part_c e30)) ?_
  refine eF fo50_2 ?_
  refine eL sh3 ?_
  refine eM ?_
  refine eF fo50_0 ?_
  refine eL sh3 ?_
  obtain ⟨x31, e31, h4⟩ := bind_e h4
  refine eP (fun H hH => yv_callP rfl rfl (.cons rfl (.cons rfl (.cons rfl .nil))) cal86 (CvL.refl _) (d_money_Part_c e31)) ?_
  refine eP (fun H hH => yv_build (cs := [int y1_3, int x30, int x31]) (ps := [(0, _), (1, _), (2, _)]) rfl pl50 z50 rfl (.cons rfl (.cons rfl (.cons rfl .nil))) (by kernel_rfl)) ?_
  refine de_eff0 rfl rfl rfl rfl (Yield.weak (yl_ob (ob' := (⟨50, 3, true, true, v25, [[int y1_3, int x30, int x31]]⟩ : AObj)) (yl_store rfl sh50 rfl rfl rfl rfl rfl rfl rfl rfl rfl) rfl) (fun _ h => h) (fun _ _ => trivial)) (by rintro _ _ ⟨rfl, rfl⟩; exact trivial) ?_; rintro _ _ ⟨rfl, rfl⟩
  refine de_nil (hK _ ?_)
  refine c_drawE [0, 0, 0, 0, 8, 24, 56, 0, 128, 504, 0, 1024, 3072, 7168, 0, 16384, 64512, 0, 131072, 393216, 917504, 0, 2097152, 8257536, 1982457, 18759673, 52314105, 119537659, 253755387, 522190843, 1073741823, 2147483647, 4294967295] (rl [(4, [6]), (5, [6]), (6, [6]), (7, [8]), (8, [8]), (11, [6]), (12, [6]), (13, [6]), (14, [8]), (15, [8]), (18, [6]), (19, [6]), (20, [6]), (21, [8]), (22, [8]), (24, [6]), (25, [6]), (27, [6]), (28, [6]), (30, [6]), (31, [6])] []) (rl [(26, [8]), (29, [8]), (32, [])] [6, 8]) (rl [(26, false), (29, false), (32, false)] true) [0, 1, 2, 3, 4, 5, 6, 7, 8, 9, 10, 11, 12, 13, 14, 15, 16, 17, 18, 19, 20, 21, 22, 23, 24, 25, 26, 27, 28, 29, 30, 31, 32] mixed (by kernel_rfl) ?_; intro K hK
  iterate 4 refine eM ?_
  obtain ⟨p32, h4⟩ := asrt_e h4
  refine de_pure rfl rfl rfl rfl (fun H hH => yv_ixW rfl Tryz.underlying39 sh50 rfl rfl ((hH _ (by decide)).trans rfl) rfl rfl p32 (List.length_map _) e24) ?_
  refine eF fo50_0 (hr := ix_get e24) ?_
  refine eL sh3 (hr := ix_get e24) ?_
  refine eF fo50_0 ?_
  refine eL sh3 ?_
  obtain ⟨x33, e33, h4⟩ := bnd_e h4
  refine eP (fun H hH => yv_sub rfl rfl rfl e33) ?_
  refine eM ?_
  obtain ⟨p34, h4⟩ := asrt_e h4
  refine de_pure rfl rfl rfl rfl (fun H hH => yv_ixW rfl Tryz.underlying39 sh50 rfl rfl ((hH _ (by decide)).trans rfl) rfl rfl p34 (List.length_map _) e24) ?_
  refine eF fo50_1 (hr := ix_get e24) ?_
  refine eL sh3 (hr := ix_get e24) ?_
  refine eF fo50_1 ?_
  refine eL sh3 ?_
  obtain ⟨x35, e35, h4⟩ := bnd_e h4
  refine eP (fun H hH => yv_sub rfl rfl rfl e35) ?_
  refine eM ?_
  obtain ⟨p36, h4⟩ := asrt_e h4
  refine de_pure rfl rfl rfl rfl (fun H hH => yv_ixW rfl Tryz.underlying39 sh50 rfl rfl ((hH _ (by decide)).trans rfl) rfl rfl p36 (List.length_map _) e24) ?_
  refine eF fo50_2 (hr := ix_get e24) ?_
  refine eL sh3 (hr := ix_get e24) ?_
  refine eF fo50_2 ?_
  refine eL sh3 ?_
  obtain ⟨x37, e37, h4⟩ := bnd_e h4
  refine eP (fun H hH => yv_sub rfl rfl rfl e37) ?_
  obtain ⟨p38, h4⟩ := asrt_e h4
  refine de_pure rfl rfl rfl rfl (fun H hH => yv_ixW rfl Tryz.underlying39 sh50 rfl rfl ((hH _ (by decide)).trans rfl) rfl rfl p38 (List.length_map _) e24) ?_
  refine eF fo50_0 (hr := ix_get e24) ?_
  obtain ⟨x39, e39, h4⟩ := bnd_e h4
  have fx39 := ix_set e24 e39; have lx39 := len_setV e39 (rfl : y1_4.length = y1_4.length)
  refine de_eff0 rfl rfl rfl rfl (Yield.weak (yl_ob (ob' := (⟨50, 3, true, true, v14, x39.map GLayer.av⟩ : AObj)) (yl_store rfl sh3 rfl rfl rfl rfl rfl (ix_get e24) rfl rfl rfl) (ob_eq (map_setV e39))) (fun _ h => h) (fun _ _ => trivial)) (by rintro _ _ ⟨rfl, rfl⟩; exact ⟨rfl, trivial⟩) ?_; rintro _ _ ⟨rfl, rfl⟩
  obtain ⟨p40, h4⟩ := asrt_e h4
  refine de_pure rfl rfl rfl rfl (fun H hH => yv_ixW rfl Tryz.underlying39 sh50 rfl rfl ((hH _ (by decide)).trans rfl) rfl rfl p40 (List.length_map _) fx39) ?_
  refine eF fo50_1 (hr := ix_get fx39) ?_
  obtain ⟨x41, e41, h4⟩ := bnd_e h4
  have fx41 := ix_set fx39 e41; have lx41 := len_setV e41 lx39
  refine de_eff0 rfl rfl rfl rfl (Yield.weak (yl_ob (ob' := (⟨50, 3, true, true, v14, x41.map GLayer.av⟩ : AObj)) (yl_store rfl sh3 rfl rfl rfl rfl rfl (ix_get fx39) rfl rfl rfl) (ob_eq (map_setV e41))) (fun _ h => h) (fun _ _ => trivial)) (by rintro _ _ ⟨rfl, rfl⟩; exact ⟨rfl, trivial⟩) ?_; rintro _ _ ⟨rfl, rfl⟩
  obtain ⟨p42, h4⟩ := asrt_e h4
  refine de_pure rfl rfl rfl rfl (fun H hH => yv_ixW rfl Tryz.underlying39 sh50 rfl rfl ((hH _ (by decide)).trans rfl) rfl rfl p42 (List.length_map _) fx41) ?_
  refine eF fo50_2 (hr := ix_get fx41) ?_
  obtain ⟨x43, e43, h4⟩ := bnd_e h4
  have fx43 := ix_set fx41 e43; have lx43 := len_setV e43 lx41
  refine de_eff0 rfl rfl rfl rfl (Yield.weak (yl_ob (ob' := (⟨50, 3, true, true, v14, x43.map GLayer.av⟩ : AObj)) (yl_store rfl sh3 rfl rfl rfl rfl rfl (ix_get fx41) rfl rfl rfl) (ob_eq (map_setV e43))) (fun _ h => h) (fun _ _ => trivial)) (by rintro _ _ ⟨rfl, rfl⟩; exact trivial) ?_; rintro _ _ ⟨rfl, rfl⟩
  refine de_nil (hK _ ?_)
  exact lf h4 () leA
  rintro ⟨y3_1, y3_2, y3_3, y3_4⟩ _ h3
  replace h3 := p2_e h3
  replace h3 := p2_e h3
  replace h3 := p2_e h3
  refine tc tbk 1 (.mk ?_)
  refine c_drawE [0, 1, 0, 4, 15, 0, 32, 0, 128, 480, 0, 1024, 0, 4096, 15360, 3199, 35967, 102399, 233471, 524287, 1048575] (rl [(0, [7]), (1, [7]), (2, [8]), (3, [8]), (5, [7]), (6, [7]), (7, [8]), (8, [8]), (10, [7]), (11, [7]), (12, [8]), (13, [8]), (15, [7]), (17, [7]), (19, [7])] []) (rl [(16, [8]), (18, [8]), (20, [])] [7, 8]) (rl [(16, false), (18, false), (20, false)] true) [0, 1, 2, 3, 4, 5, 6, 7, 8, 9, 10, 11, 12, 13, 14, 15, 16, 17, 18, 19, 20] mixed (by kernel_rfl) ?_; intro K hK
  refine eF fo50_0 ?_
  refine eL sh3 ?_
  refine eF fo50_0 ?_
  refine eL sh3 ?_
  obtain ⟨x44, e44, h3⟩ := bnd_e h3
  refine eP (fun H hH => yv_add rfl rfl rfl e44) ?_
  refine eF fo50_1 ?_
  refine eL sh3 ?_
  refine eF fo50_1 ?_
  refine eL sh3 ?_
  obtain ⟨x45, e45, h3⟩ := bnd_e h3
  refine eP (fun H hH => yv_add rfl rfl rfl e45) ?_
  refine eF fo50_2 ?_
  refine eL sh3 ?_
  refine eF fo50_2 ?_
  refine eL sh3 ?_
  obtain ⟨x46, e46, h3⟩ := bnd_e h3
  refine eP (fun H hH => yv_add rfl rfl rfl e46) ?_
  refine eF fo50_0 ?_
  refine de_eff0 rfl rfl rfl rfl (Yield.weak (yl_ob (ob' := (⟨50, 3, true, true, v18, [[int x44, int y1_5.Value, int y1_5.Profit]]⟩ : AObj)) (yl_store rfl sh3 rfl rfl rfl rfl rfl rfl rfl rfl rfl) rfl) (fun _ h => h) (fun _ _ => trivial)) (by rintro _ _ ⟨rfl, rfl⟩; exact ⟨rfl, trivial⟩) ?_; rintro _ _ ⟨rfl, rfl⟩
  refine eF fo50_1 ?_
  refine de_eff0 rfl rfl rfl rfl (Yield.weak (yl_ob (ob' := (⟨50, 3, true, true, v18, [[int x44, int x45, int y1_5.Profit]]⟩ : AObj)) (yl_store rfl sh3 rfl rfl rfl rfl rfl rfl rfl rfl rfl) rfl) (fun _ h => h) (fun _ _ => trivial)) (by rintro _ _ ⟨rfl, rfl⟩; exact ⟨rfl, trivial⟩) ?_; rintro _ _ ⟨rfl, rfl⟩
  refine eF fo50_2 ?_
  refine de_eff0 rfl rfl rfl rfl (Yield.weak (yl_ob (ob' := (⟨50, 3, true, true, v18, [[int x44, int x45, int x46]]⟩ : AObj)) (yl_store rfl sh3 rfl rfl rfl rfl rfl rfl rfl rfl rfl) rfl) (fun _ h => h) (fun _ _ => trivial)) (by rintro _ _ ⟨rfl, rfl⟩; exact trivial) ?_; rintro _ _ ⟨rfl, rfl⟩
  refine de_nil (hK _ ?_)
  refine tc tbk 4 (.mk ?_)
  refine ni tbk h3 fun x47 h3 => ?_
  refine tr tbk 3 (.mk ?_)
  exact bk (y3_1, y3_2, x47, y3_3, (⟨x44, x45, x46⟩ : GLayer)) () h3 leA
  rintro ⟨y4_1, y4_2, y4_3, y4_4⟩ _ h2
  replace h2 := p2_e h2
  replace h2 := p2_e h2
  replace h2 := p2_e h2
  refine tc tbk 1 (.mk ?_)
  refine c_drawE [0, 0, 1, 7, 15] (rl [(1, [7])] []) (rl [(3, [])] [7]) (rl [(3, false)] true) [0, 1, 2, 3, 4] mixed (by kernel_rfl) ?_; intro K hK
  refine eM ?_
  refine eL sh50 ?_
  refine eA ?_
  refine de_eff0 rfl rfl rfl rfl (Yield.weak (yl_ob (ob' := (⟨50, 3, true, true, v12, [[int y4_4.Qty, int y4_4.Value, int y4_4.Profit]]⟩ : AObj)) (yl_store rfl sh50 rfl rfl rfl rfl rfl rfl rfl rfl rfl) rfl) (fun _ h => h) (fun _ _ => trivial)) (by rintro _ _ ⟨rfl, rfl⟩; exact trivial) ?_; rintro _ _ ⟨rfl, rfl⟩
  refine eA ?_
  refine de_nil (hK _ ?_)
  obtain rfl := nxt_e h2
  refine w_ret (hret _ _ (hk [(1, ⟨50, 3, true, true, v4, [[int 0, int 0, int 0]]⟩), (3, ⟨50, 3, true, true, v8, [[int 0, int 0, int 0]]⟩), (6, ⟨50, 3, true, true, v14, y4_3.map GLayer.av⟩)]) (.tmp rfl (.cell rfl (.pt rfl rfl rfl) sh50 rfl (.tmp rfl .nil))) (HK.le ⟨rfl, rfl, rfl, trivial⟩) ?_)
  exact ⟨(y4_1, y4_2, y4_4, 0, y4_3), v14, rfl, rfl, rfl⟩
  replace h2 := ct h2
  refine tc tbk 6 (.mk ?_)
  refine sS ⟨50, 3, true, true, v12, [[int 0, int 0, int 0]]⟩ sh50 ?_
  refine tr tbk 2 (.mk ?_)
  obtain rfl := nxt_e h2
  refine w_ret (hret _ _ (hk [(1, ⟨50, 3, true, true, v4, [[int 0, int 0, int 0]]⟩), (3, ⟨50, 3, true, true, v8, [[int 0, int 0, int 0]]⟩), (6, ⟨50, 3, true, true, v14, a1.map GLayer.av⟩)]) (.tmp rfl (.cell rfl (.pt rfl rfl rfl) sh50 rfl (.tmp rfl .nil))) (HK.le ⟨rfl, rfl, rfl, trivial⟩) ?_)
  exact ⟨(0, a1.length, (⟨0, 0, 0⟩ : GLayer), 5, a1), v14, rfl, rfl, rfl⟩
  replace h2 := ct h2
  refine tc tbk 6 (.mk ?_)
  refine sS ⟨50, 3, true, true, v12, [[int 0, int 0, int 0]]⟩ sh50 ?_
  refine tr tbk 2 (.mk ?_)
  obtain rfl := nxt_e h2
  refine w_ret (hret _ _ (hk [(1, ⟨50, 3, true, true, v4, [[int 0, int 0, int 0]]⟩), (3, ⟨50, 3, true, true, v8, [[int 0, int 0, int 0]]⟩), (6, ⟨50, 3, true, true, v14, a1.map GLayer.av⟩)]) (.tmp rfl (.cell rfl (.pt rfl rfl rfl) sh50 rfl (.tmp rfl .nil))) (HK.le ⟨rfl, rfl, rfl, trivial⟩) ?_)
  exact ⟨(0, a1.length, (⟨0, 0, 0⟩ : GLayer), 1, a1), v14, rfl, rfl, rfl⟩
  rintro y _ ⟨⟨y5_2, y5_3, y5_4, y5_5, y5_6⟩, w5_1, rfl, hc, rfl⟩
  replace h1 := p2_e h1
  replace h1 := p2_e h1
  replace h1 := p2_e h1
  replace h1 := p2_e h1
  subst hc
  refine tr tbk 4 (.mk ?_)
  refine sS ⟨50, 3, true, true, v8, [[int y5_4.Qty, int y5_4.Value, int y5_4.Profit]]⟩ sh50 ?_
  refine tr tbk 2 (.mk ?_)
  obtain rfl := nxt_e h1
  refine w_ret (hret _ _ (hk [(1, ⟨50, 3, true, true, v4, [[int 0, int 0, int 0]]⟩), (6, ⟨50, 3, true, true, w5_1, y5_6.map GLayer.av⟩)]) (.tmp rfl (.cell rfl (.pt rfl rfl rfl) sh50 rfl (.tmp rfl .nil))) (HK.le ⟨rfl, rfl, trivial⟩) ?_)
  exact ⟨(y5_2, y5_3, y5_4, y5_5, y5_6), w5_1, rfl, rfl, rfl⟩
  rintro y _ ⟨⟨y6_2, y6_3, y6_4, y6_5, y6_6⟩, w6_1, rfl, hc, rfl⟩
  replace h0 := p2_e h0
  replace h0 := p2_e h0
  replace h0 := p2_e h0
  replace h0 := p2_e h0
  subst hc
  refine tr tbk 4 (.mk ?_)
  refine sA 9 z50 fun v48 => ?_
  refine tr tbk 1 (.mk ?_)
  refine sS ⟨50, 3, true, true, v48, [[int y6_4.Qty, int y6_4.Value, int y6_4.Profit]]⟩ sh50 ?_
  refine tr tbk 4 (.mk ?_)
  refine jn h0 [1, 2, 6, 7, 8, 9, 10, 11] [1, 6, 9] (fun (a : Bool) (k : Unit) => [(33, boo a)]) (fun a k => []) ⟨fun j49 h1 => ?_, ?_⟩
  refine tc tbk 2 (.mk ?_)
  refine nb tbk h1 fun x50 h1 => ?_
  refine tr tbk 1 (.mk ?_)
  cases x50
  replace h1 := cf h1
  refine tr tbk 1 (.mk ?_)
  refine sY (yv_len_sl rfl Tryz.underlying39 rfl (.sl rfl rfl)) ?_
  refine nb tbk h1 fun x51 h1 => ?_
  refine tr tbk 2 (.mk ?_)
  exact lf h1 () leA
  replace h1 := ct h1
  refine tr tbk 5 (.mk ?_)
  exact lf h1 () leA
  rintro y7_1 _ h0
  cases y7_1
  replace h0 := cf h0
  refine tc tbk 6 (.mk ?_)
  obtain ⟨x52, e52, h0⟩ := bind_e h0
  refine sC cal176 (d_stdcost_rate_of_c e52) ?_
  refine tr tbk 8 (.mk ?_)
  refine c_drawE [0, 1, 3, 7, 0, 16, 63, 127] (rl [(1, [6]), (2, [6]), (3, [6]), (4, [9]), (5, [9])] []) (fun i => [6, 9]) (fun i => true) [0, 1, 2, 3, 4, 5, 6, 7] mixed (by kernel_rfl) ?_; intro K hK
  refine eM ?_
  obtain ⟨p53, h0⟩ := asrt_e h0
  obtain ⟨x54, e54, h0⟩ := bind_e h0
  refine de_pure rfl rfl rfl rfl (fun H hH => yv_ixW rfl Tryz.underlying39 sh50 rfl rfl ((hH _ (by decide)).trans rfl) rfl rfl p53 (List.length_map _) e54) ?_
  refine eF fo50_1 (hr := ix_get e54) ?_
  refine eL sh3 (hr := ix_get e54) ?_
  refine eF fo50_1 ?_
  refine eL sh3 ?_
  obtain ⟨x55, e55, h0⟩ := bnd_e h0
  refine eP (fun H hH => yv_add rfl rfl rfl e55) ?_
  refine eA ?_
  refine de_nil (hK _ ?_)
  refine tc tbk 1 (.mk ?_)
  refine jn h0 [6, 7, 8, 9, 10, 12, 13] [1, 6, 9] (fun (a : Bool) (k : Unit) => [(56, boo a)]) (fun a k => []) ⟨fun j56 h1 => ?_, ?_⟩
  refine tc tbk 2 (.mk ?_)
  refine nb tbk h1 fun x57 h1 => ?_
  refine tr tbk 1 (.mk ?_)
  cases x57
  replace h1 := cf h1
  refine tr tbk 2 (.mk ?_)
  refine nb tbk h1 fun x58 h1 => ?_
  refine tr tbk 2 (.mk ?_)
  exact lf h1 () leA
  replace h1 := ct h1
  refine tr tbk 5 (.mk ?_)
  exact lf h1 () leA
  rintro y8_1 _ h0
  refine jn h0 [6, 7, 8, 9, 10] [1, 6, 9] (fun (a : Int) (k : Unit) => [(12, int a)]) (fun a k => []) ⟨fun j59 h1 => ?_, ?_⟩
  cases y8_1
  replace h1 := cf h1
  refine tc tbk 2 (.mk ?_)
  exact lf h1 () leA
  replace h1 := ct h1
  refine tc tbk 5 (.mk ?_)
  exact lf h1 () leA
  rintro y9_1 _ h0
  refine tc tbk 1 (.mk ?_)
  refine c_drawE [0, 1, 3, 7, 0, 16, 0, 112, 255, 511, 1023, 2047] (rl [(1, [6]), (2, [6]), (3, [6]), (4, [9]), (5, [9]), (9, [6]), (10, [6])] []) (rl [(11, [])] [6, 9]) (rl [(11, false)] true) [0, 1, 2, 3, 4, 5, 6, 7, 8, 9, 10, 11] mixed (by kernel_rfl) ?_; intro K hK
  refine eM ?_
  obtain ⟨p60, h0⟩ := asrt_e h0
  refine de_pure rfl rfl rfl rfl (fun H hH => yv_ixW rfl Tryz.underlying39 sh50 rfl rfl ((hH _ (by decide)).trans rfl) rfl rfl p60 (List.length_map _) e54) ?_
  refine eF fo50_1 (hr := ix_get e54) ?_
  refine eL sh3 (hr := ix_get e54) ?_
  refine eF fo50_1 ?_
  refine eL sh3 ?_
  refine eM ?_
  obtain ⟨x61, e61, h0⟩ := bnd_e h0
  refine eP (fun H hH => yv_sub rfl rfl rfl e61) ?_
  obtain ⟨x62, e62, h0⟩ := bnd_e h0
  refine eP (fun H hH => yv_add rfl rfl rfl e62) ?_
  obtain ⟨p63, h0⟩ := asrt_e h0
  refine de_pure rfl rfl rfl rfl (fun H hH => yv_ixW rfl Tryz.underlying39 sh50 rfl rfl ((hH _ (by decide)).trans rfl) rfl rfl p63 (List.length_map _) e54) ?_
  refine eF fo50_1 (hr := ix_get e54) ?_
  obtain ⟨x64, e64, h0⟩ := bnd_e h0
  have fx64 := ix_set e54 e64; have lx64 := len_setV e64 (rfl : y6_6.length = y6_6.length)
  refine de_eff0 rfl rfl rfl rfl (Yield.weak (yl_ob (ob' := (⟨50, 3, true, true, w6_1, x64.map GLayer.av⟩ : AObj)) (yl_store rfl sh3 rfl rfl rfl rfl rfl (ix_get e54) rfl rfl rfl) (ob_eq (map_setV e64))) (fun _ h => h) (fun _ _ => trivial)) (by rintro _ _ ⟨rfl, rfl⟩; exact trivial) ?_; rintro _ _ ⟨rfl, rfl⟩
  refine de_nil (hK _ ?_)
  refine tc tbk 4 (.mk ?_)
  refine sS ⟨50, 3, true, true, v48, [[int y6_4.Qty, int y9_1, int y6_4.Profit]]⟩ sh3 ?_
  refine tr tbk 2 (.mk ?_)
  refine c_drawE [0, 0, 1, 7, 15] (rl [(1, [9])] []) (rl [(3, [])] [9]) (rl [(3, false)] true) [0, 1, 2, 3, 4] mixed (by kernel_rfl) ?_; intro K hK
  refine eM ?_
  refine eL sh50 ?_
  refine eA ?_
  refine de_eff0 rfl rfl rfl rfl (Yield.weak (yl_ob (ob' := (⟨50, 3, true, true, v4, [[int y6_4.Qty, int y9_1, int y6_4.Profit]]⟩ : AObj)) (yl_store rfl sh50 rfl rfl rfl rfl rfl rfl rfl rfl rfl) rfl) (fun _ h => h) (fun _ _ => trivial)) (by rintro _ _ ⟨rfl, rfl⟩; exact trivial) ?_; rintro _ _ ⟨rfl, rfl⟩
  refine eA ?_
  refine de_nil (hK _ ?_)
  obtain ⟨p65, h0⟩ := asrt_e h0
  obtain rfl := nxt_e h0
  refine wR hret (rT (rC sh50 (rT .nil))) ?_
  exact CvL.tup (.cons (cv_win (l := x64) rfl rfl rfl rfl (CvLL.refl _) (by first | omega | (simp only [List.length_set]; omega)) rfl) (.cons (.refl _) (.cons (.refl _) .nil)))
  replace h0 := ct h0
  refine tc tbk 2 (.mk ?_)
  refine c_drawE [0, 0, 0, 1, 11, 31] (rl [(1, [9])] []) (rl [(4, [])] [9]) (rl [(4, false)] true) [0, 1, 2, 3, 4, 5] mixed (by kernel_rfl) ?_; intro K hK
  refine eM ?_
  refine eL sh50 ?_
  refine eM ?_
  refine eA ?_
  refine de_eff0 rfl rfl rfl rfl (Yield.weak (yl_ob (ob' := (⟨50, 3, true, true, v4, [[int y6_4.Qty, int y6_4.Value, int y6_4.Profit]]⟩ : AObj)) (yl_store rfl sh50 rfl rfl rfl rfl rfl rfl rfl rfl rfl) rfl) (fun _ h => h) (fun _ _ => trivial)) (by rintro _ _ ⟨rfl, rfl⟩; exact trivial) ?_; rintro _ _ ⟨rfl, rfl⟩
  refine eA ?_
  refine de_nil (hK _ ?_)
  obtain ⟨p66, h0⟩ := asrt_e h0
  obtain rfl := nxt_e h0
  refine wR hret (rT (rC sh50 (rT .nil))) ?_
  exact CvL.tup (.cons (cv_win (l := y6_6) rfl rfl rfl rfl (CvLL.refl _) (by first | omega | (simp only [List.length_set]; omega)) rfl) (.cons (.refl _) (.cons (.refl _) .nil)))
  replace h0 := ct h0
  refine tc tbk 4 (.mk ?_)
  obtain ⟨p67, h0⟩ := asrt_e h0
  refine rse rfl rfl rfl (yl_call rfl rfl (.cons rfl .nil) cal59 (pc_cv (clone59_c (id := 2) (l := a1) rfl p67) (.cons (.refl _) .nil))) ?_; rintro _ _ ⟨v68, rfl, rfl⟩
  refine tr tbk 2 (.mk ?_)
  refine sS ⟨50, 3, true, true, v4, [[int 0, int 0, int 0]]⟩ sh50 ?_
  refine tr tbk 2 (.mk ?_)
  obtain rfl := nxt_e h0
  refine wR hret (rT (rC sh50 (rT .nil))) ?_
  exact CvL.tup (.cons (cv_lst rfl rfl rfl rfl rfl (Eq.symm rfl)) (.cons (.refl _) (.cons (.refl _) .nil)))
def d_pavg_Free_L0 (a1 : GPool) : Nat → Int → Int → Option (Int)
  | 0, _, _ => none
  | n + 1, y0_1, y0_2 =>
    bnd (decide (y0_2 < (a1.Layers.length : Int))) fun x4 =>
    cond x4 ((ix a1.Layers y0_2).bind fun x5 =>
    bnd (w64 (y0_1 + x5.Qty)) fun x7 =>
    bnd (w64 (y0_2 + 1)) fun x8 =>
    d_pavg_Free_L0 a1 n (x7 : Int) (x8 : Int)) (some (y0_1 : Int))
def d_pavg_Free_L1 (a1 : GPool) : Nat → Int → Int → Option (Int)
  | 0, _, _ => none
  | n + 1, y2_1, y2_2 =>
    bnd (decide (y2_2 < 3)) fun x10 =>
    cond x10 ((ix ([a1.Pend.a0, a1.Pend.a1, a1.Pend.a2] : List Int) y2_2).bind fun x11 =>
    bnd (w64 (y2_1 - x11)) fun x12 =>
    bnd (w64 (y2_2 + 1)) fun x13 =>
    d_pavg_Free_L1 a1 n (x12 : Int) (x13 : Int)) (some (y2_1 : Int))
def d_pavg_Free (n : Nat) (a1 : GPool) : Option (Int) :=
(show Option (Int) from
d_pavg_Free_L0 a1 n (0 : Int) (0 : Int)).bind <| fun y1_1 =>
(show Option (Int) from
d_pavg_Free_L1 a1 n (y1_1 : Int) (0 : Int)).bind <| fun y3_1 =>
some ((y3_1 : Int))
theorem d_pavg_Free_c {n : Nat} {a1 : GPool} {r : Int} (h0 : d_pavg_Free n a1 = some r) : PP Tryz.prog 149 [.agg (GPool.av a1)] (fun y => y = int r) := by
  unfold d_pavg_Free at h0
  refine pp_of_pc (R0 := fun y H => Cv (frzH H) y (int r)) ?_ (fun y H hc => ⟨_, rfl, pvI r, hc⟩)
  refine pcw (c := _) Tryz.func149 rfl rfl ?_; intro Q hret hnorm
  refine tc tbk 2 (.mk ?_)
  refine sB 1 fun v2 => ?_
  refine tr tbk 11 (.mk ?_)
  refine sY (yv_len_sl rfl Tryz.underlying39 rfl (lst_len _)) ?_
  refine tr tbk 2 (.mk ?_)
  refine jn h0 [1, 2] [1] (fun (a : Int) (k : Unit) => [(3, int a)]) (fun a k => []) ⟨fun j3 h1 => ?_, ?_⟩
  refine tc tbk 1 (.mk ?_)
  refine lp (fun n (a : Int × Int) => d_pavg_Free_L0 a1 n a.1 a.2) ((0 : Int), (0 : Int)) () h1 [1, 2, 9, 10] [1] (fun (a : Int × Int) (k : Unit) => [(3, int a.1), (11, int a.2)]) (fun a k => []) (fun _ => rfl) ⟨leA, ?_⟩
  rintro n ⟨y0_1, y0_2⟩ _ hm h1
  replace h1 : d_pavg_Free_L0 a1 (n + 1) y0_1 y0_2 = some _ := h1
  rw [d_pavg_Free_L0] at h1
  refine tc tbk 2 (.mk ?_)
  refine nb tbk h1 fun x4 h1 => ?_
  refine tr tbk 2 (.mk ?_)
  cases x4
  replace h1 := cf h1
  refine tc tbk 2 (.mk ?_)
  exact lf h1 () leA
  replace h1 := ct h1
  refine tc tbk 6 (.mk ?_)
  obtain ⟨x5, e5, h1⟩ := bind_e h1
  refine sY (yv_ixT rfl Tryz.underlying39 sh50 rfl rfl e5) ?_
  refine tr tbk 1 (.mk ?_)
  refine sA 2 z50 fun v6 => ?_
  refine sS ⟨50, 3, true, true, v6, [[int x5.Qty, int x5.Value, int x5.Profit]]⟩ sh50 ?_
  refine tr tbk 5 (.mk ?_)
  refine ni tbk h1 fun x7 h1 => ?_
  refine tr tbk 4 (.mk ?_)
  refine ni tbk h1 fun x8 h1 => ?_
  refine tr tbk 2 (.mk ?_)
  exact bk (x7, x8) () h1 leA
  rintro y1_1 _ h0
  refine tc tbk 7 (.mk ?_)
  refine jn h0 [2] [] (fun (a : Int) (k : Unit) => [(3, int a)]) (fun a k => []) ⟨fun j9 h1 => ?_, ?_⟩
  refine tc tbk 1 (.mk ?_)
  refine lp (fun n (a : Int × Int) => d_pavg_Free_L1 a1 n a.1 a.2) ((y1_1 : Int), (0 : Int)) () h1 [2, 21] [] (fun (a : Int × Int) (k : Unit) => [(3, int a.1), (22, int a.2)]) (fun a k => []) (fun _ => rfl) ⟨leA, ?_⟩
  rintro n ⟨y2_1, y2_2⟩ _ hm h1
  replace h1 : d_pavg_Free_L1 a1 (n + 1) y2_1 y2_2 = some _ := h1
  rw [d_pavg_Free_L1] at h1
  refine tc tbk 2 (.mk ?_)
  refine nb tbk h1 fun x10 h1 => ?_
  refine tr tbk 2 (.mk ?_)
  cases x10
  replace h1 := cf h1
  refine tc tbk 2 (.mk ?_)
  exact lf h1 () leA
  replace h1 := ct h1
  refine tc tbk 6 (.mk ?_)
  obtain ⟨x11, e11, h1⟩ := bind_e h1
  refine sY (yv_indexAT (g := fI) (l := ([a1.Pend.a0, a1.Pend.a1, a1.Pend.a2] : List Int)) (v := x11) (w := int x11) rfl Tryz.underlying40 sh3 rfl rfl rfl e11 (fun _ => rfl) hw1) ?_
  refine tr tbk 5 (.mk ?_)
  refine ni tbk h1 fun x12 h1 => ?_
  refine tr tbk 4 (.mk ?_)
  refine ni tbk h1 fun x13 h1 => ?_
  refine tr tbk 2 (.mk ?_)
  exact bk (x12, x13) () h1 leA
  rintro y3_1 _ h0
  refine tc tbk 5 (.mk ?_)
  obtain rfl := nxt_e h0
  refine wR hret (rT .nil) ?_
  exact .refl _
def d_fifo_Out_L0 : Nat → Nat → Nat → Int → (List GLayer) → GLayer → Option (Nat × Nat × (List GLayer) × GLayer)
  | 0, _, _, _, _, _ => none
  | n + 1, y0_1, y0_2, y0_3, y0_4, y0_5 =>
    (show Option (Bool) from
    bnd (decide ((y0_2 : Int) > 0)) fun x12 =>
    cond x12 (bnd (decide (y0_3 > 0)) fun x13 =>
    some (x13 : Bool)) (some (false : Bool))).bind <| fun y1_1 =>
    cond y1_1 (asrt ((0 : Int) ≤ 0 ∧ 0 < (y0_2 : Int)) <|
    (ix y0_4 (((y0_1 : Nat) : Int) + 0)).bind fun x15 =>
    bnd (decide (x15.Qty > y0_3)) fun x17 =>
    (show Option (Nat × Nat × (List GLayer) × GLayer) from
    cond x17 ((d_money_Part n x15.Value y0_3 x15.Qty).bind fun x21 =>
    (d_money_Part n x15.Profit y0_3 x15.Qty).bind fun x22 =>
    asrt ((0 : Int) ≤ 0 ∧ 0 < (y0_2 : Int)) <|
    bnd (w64 (x15.Qty - y0_3)) fun x24 =>
    asrt ((0 : Int) ≤ 0 ∧ 0 < (y0_2 : Int)) <|
    bnd (w64 (x15.Value - x21)) fun x26 =>
    asrt ((0 : Int) ≤ 0 ∧ 0 < (y0_2 : Int)) <|
    bnd (w64 (x15.Profit - x22)) fun x28 =>
    asrt ((0 : Int) ≤ 0 ∧ 0 < (y0_2 : Int)) <|
    bnd (y0_4.set (Int.toNat (((y0_1 : Nat) : Int) + 0)) ((⟨x24, x15.Value, x15.Profit⟩ : GLayer) : GLayer)) fun x30 =>
    asrt ((0 : Int) ≤ 0 ∧ 0 < (y0_2 : Int)) <|
    bnd (x30.set (Int.toNat (((y0_1 : Nat) : Int) + 0)) ((⟨x24, x26, x15.Profit⟩ : GLayer) : GLayer)) fun x32 =>
    asrt ((0 : Int) ≤ 0 ∧ 0 < (y0_2 : Int)) <|
    bnd (x32.set (Int.toNat (((y0_1 : Nat) : Int) + 0)) ((⟨x24, x26, x28⟩ : GLayer) : GLayer)) fun x34 =>
    some ((y0_1 : Nat), (y0_2 : Nat), (x34 : List GLayer), ((⟨y0_3, x21, x22⟩ : GLayer) : GLayer))) (asrt ((0 : Int) ≤ 1 ∧ 1 ≤ (y0_2 : Int) ∧ (y0_2 : Int) ≤ (y0_2 : Int) ∧ 1 < (y0_2 + 1 : Int)) <|
    bnd (if (Int.toNat (y0_2 : Int)) = 1 then y0_1 else y0_1 + 1) fun x20 =>
    some ((x20 : Nat), (((Int.toNat (y0_2 : Int)) - 1) : Nat), (y0_4 : List GLayer), (x15 : GLayer)))).bind <| p2 fun (y2_1 : Nat) (q0 : Nat × (List GLayer) × GLayer) => (p2 fun (y2_2 : Nat) (q1 : (List GLayer) × GLayer) => (p2 fun (y2_3 : List GLayer) (y2_4 : GLayer) =>
    bnd (w64 (y0_5.Qty + y2_4.Qty)) fun x35 =>
    bnd (w64 (y0_5.Value + y2_4.Value)) fun x36 =>
    bnd (w64 (y0_5.Profit + y2_4.Profit)) fun x37 =>
    bnd (w64 (y0_3 - y2_4.Qty)) fun x38 =>
    d_fifo_Out_L0 n (y2_1 : Nat) (y2_2 : Nat) (x38 : Int) (y2_3 : List GLayer) ((⟨x35, x36, x37⟩ : GLayer) : GLayer)) q1) q0) (some ((y0_1 : Nat), (y0_2 : Nat), (y0_4 : List GLayer), (y0_5 : GLayer)))
def d_fifo_Out (n : Nat) (a1 : List GLayer) (a2 : Int) : Option ((List GLayer) × GLayer × Int) :=
asrt (a1.length ≤ 68719476736) <|
bnd (decide (a2 < 1)) fun x6 =>
cond x6 (some ((a1 : List GLayer), ((⟨0, 0, 0⟩ : GLayer) : GLayer), (1 : Int))) ((d_fifo_has n a1 a2).bind fun x7 =>
bnd (!x7) fun x8 =>
cond x8 (some ((a1 : List GLayer), ((⟨0, 0, 0⟩ : GLayer) : GLayer), (5 : Int))) ((show Option (Nat × Nat × (List GLayer) × GLayer) from
d_fifo_Out_L0 n (0 : Nat) (a1.length : Nat) (a2 : Int) (a1 : List GLayer) ((⟨0, 0, 0⟩ : GLayer) : GLayer)).bind <| p2 fun (y3_1 : Nat) (q0 : Nat × (List GLayer) × GLayer) => (p2 fun (y3_2 : Nat) (q1 : (List GLayer) × GLayer) => (p2 fun (y3_3 : List GLayer) (y3_4 : GLayer) =>
asrt (y3_1 + y3_2 ≤ y3_3.length) <|
some (((((y3_3).drop y3_1).take y3_2) : List GLayer), (y3_4 : GLayer), (0 : Int))) q1) q0))
theorem d_fifo_Out_c {n : Nat} {a1 : List GLayer} {a2 : Int} {r : (List GLayer) × GLayer × Int} (h0 : d_fifo_Out n a1 a2 = some r) : PP Tryz.prog 268 [lst 3 GLayer.av a1, int a2] (fun y => y = .tup [lst 3 GLayer.av r.1, .agg (GLayer.av r.2.1), int r.2.2]) := by
  unfold d_fifo_Out at h0
  refine pp_of_pc (R0 := fun y H => Cv (frzH H) y (.tup [lst 3 GLayer.av r.1, .agg (GLayer.av r.2.1), int r.2.2])) ?_ (fun y H hc => ⟨_, rfl, .tup (pvl3 ((pvLs GLayer.pvc) (r.1)) ((fun (a : GLayer) => PV.agg (GLayer.pvc a)) (r.2.1)) (pvI (r.2.2))), hc⟩)
  refine pcw (c := _) Tryz.func268 rfl rfl ?_; intro Q hret hnorm
  refine tc tbk 3 (.mk ?_)
  refine sA 1 z50 fun v3 => ?_
  refine tr tbk 5 (.mk ?_)
  obtain ⟨p4, h0⟩ := asrt_e h0
  refine rse rfl rfl rfl (yl_call rfl rfl (.cons rfl .nil) cal59 (pc_cv (clone59_c (id := 2) (l := a1) rfl p4) (.cons (.refl _) .nil))) ?_; rintro _ _ ⟨v5, rfl, rfl⟩
  refine tr tbk 6 (.mk ?_)
  refine nb tbk h0 fun x6 h0 => ?_
  refine tr tbk 1 (.mk ?_)
  cases x6
  replace h0 := cf h0
  refine tc tbk 7 (.mk ?_)
  obtain ⟨x7, e7, h0⟩ := bind_e h0
  refine sY (yv_callT (v := boo x7) rfl rfl (.cons rfl (.cons rfl .nil)) cal269 (.cons (cv_lst rfl rfl rfl rfl rfl (Eq.symm rfl)) (.cons (.refl _) .nil)) (d_fifo_has_c e7) rfl) ?_
  refine nb tbk h0 fun x8 h0 => ?_
  refine tr tbk 1 (.mk ?_)
  cases x8
  replace h0 := cf h0
  refine tc tbk 4 (.mk ?_)
  refine sA 3 z50 fun v9 => ?_
  refine tr tbk 2 (.mk ?_)
  refine jn h0 [4, 5, 6, 7] [1] (fun (a : Nat × Nat × (List GLayer) × GLayer) (k : Unit) => [(0, .sl 2 v5 a.1 a.2.1)]) (fun a k => [(2, ⟨50, 3, true, true, v5, a.2.2.1.map GLayer.av⟩), (3, ⟨50, 3, true, true, v9, [[int a.2.2.2.Qty, int a.2.2.2.Value, int a.2.2.2.Profit]]⟩)]) ⟨fun j10 h1 => ?_, ?_⟩
  refine tc tbk 1 (.mk ?_)
  refine lp (fun n (a : Nat × Nat × Int × (List GLayer) × GLayer) => d_fifo_Out_L0 n a.1 a.2.1 a.2.2.1 a.2.2.2.1 a.2.2.2.2) ((0 : Nat), (a1.length : Nat), (a2 : Int), (a1 : List GLayer), ((⟨0, 0, 0⟩ : GLayer) : GLayer)) () h1 [4, 5, 6, 7] [1] (fun (a : Nat × Nat × Int × (List GLayer) × GLayer) (k : Unit) => [(0, .sl 2 v5 a.1 a.2.1), (1, int a.2.2.1)]) (fun a k => [(2, ⟨50, 3, true, true, v5, a.2.2.2.1.map GLayer.av⟩), (3, ⟨50, 3, true, true, v9, [[int a.2.2.2.2.Qty, int a.2.2.2.2.Value, int a.2.2.2.2.Profit]]⟩)]) (fun _ => rfl) ⟨leA, ?_⟩
  rintro n ⟨y0_1, y0_2, y0_3, y0_4, y0_5⟩ _ hm h1
  replace h1 : d_fifo_Out_L0 (n + 1) y0_1 y0_2 y0_3 y0_4 y0_5 = some _ := h1
  rw [d_fifo_Out_L0] at h1
  refine tc tbk 2 (.mk ?_)
  refine jn h1 [0, 1, 4, 5, 6, 7] [1, 2, 3] (fun (a : Bool) (k : Unit) => [(27, boo a)]) (fun a k => []) ⟨fun j11 h2 => ?_, ?_⟩
  refine tc tbk 2 (.mk ?_)
  refine sY (yv_len_sl rfl Tryz.underlying39 rfl (.sl rfl rfl)) ?_
  refine nb tbk h2 fun x12 h2 => ?_
  refine tr tbk 1 (.mk ?_)
  cases x12
  replace h2 := cf h2
  refine tr tbk 4 (.mk ?_)
  exact lf h2 () leA
  replace h2 := ct h2
  refine tr tbk 1 (.mk ?_)
  refine nb tbk h2 fun x13 h2 => ?_
  refine tr tbk 2 (.mk ?_)
  exact lf h2 () leA
  rintro y1_1 _ h1
  cases y1_1
  replace h1 := cf h1
  refine tc tbk 2 (.mk ?_)
  exact lf h1 () leA
  replace h1 := ct h1
  refine tc tbk 6 (.mk ?_)
  obtain ⟨p14, h1⟩ := asrt_e h1
  obtain ⟨x15, e15, h1⟩ := bind_e h1
  refine sY (yv_ixW rfl Tryz.underlying39 sh50 rfl rfl rfl rfl rfl p14 (List.length_map _) e15) ?_
  refine sY (yv_load rfl sh50 rfl (.pt rfl rfl (ix_get e15)) rfl) ?_
  refine sA 4 z50 fun v16 => ?_
  refine sS ⟨50, 3, true, true, v16, [[int x15.Qty, int x15.Value, int x15.Profit]]⟩ sh50 ?_
  refine tr tbk 7 (.mk ?_)
  refine nb tbk h1 fun x17 h1 => ?_
  refine tr tbk 1 (.mk ?_)
  refine jn h1 [1, 4, 5, 6, 7, 8] [1, 3] (fun (a : Nat × Nat × (List GLayer) × GLayer) (k : Unit) => [(0, .sl 2 v5 a.1 a.2.1)]) (fun a k => [(2, ⟨50, 3, true, true, v5, a.2.2.1.map GLayer.av⟩), (4, ⟨50, 3, true, true, v16, [[int a.2.2.2.Qty, int a.2.2.2.Value, int a.2.2.2.Profit]]⟩)]) ⟨fun j18 h2 => ?_, ?_⟩
  cases x17
  replace h2 := cf h2
  refine tc tbk 4 (.mk ?_)
  refine sY (yv_len_sl rfl Tryz.underlying39 rfl (.sl rfl rfl)) ?_
  refine tr tbk 1 (.mk ?_)
  refine sY (yv_len_sl rfl Tryz.underlying39 rfl (.sl rfl rfl)) ?_
  obtain ⟨p19, h2⟩ := asrt_e h2
  obtain ⟨x20, e20, h2⟩ := bnd_e h2
  refine sY (yv_slO3 (len := y0_2) (i := 1) (j := (Int.toNat (y0_2 : Int))) rfl Tryz.underlying39 sh50 rfl rfl rfl rfl (.yes rfl (by first | omega | (dsimp only; omega) | (dsimp only at *; omega))) (.yes rfl (by first | omega | (dsimp only; omega) | (dsimp only at *; omega))) (.yes rfl (by first | omega | (dsimp only; omega) | (dsimp only at *; omega))) (by first | omega | (dsimp only; omega) | (dsimp only at *; omega)) (by first | omega | (dsimp only; omega) | (dsimp only at *; omega)) e20) ?_
  refine tr tbk 2 (.mk ?_)
  exact lf h2 () leA
  replace h2 := ct h2
  refine tc tbk 2 (.mk ?_)
  refine c_drawE [0, 0, 2, 0, 0, 16, 62, 0, 128, 0, 0, 1024, 4094, 8191, 16383] (rl [(1, [4]), (2, [4]), (4, [4]), (5, [4]), (7, [4]), (8, [4]), (10, [4]), (11, [4])] []) (rl [(14, [])] [4]) (rl [(14, false)] true) [0, 1, 2, 3, 4, 5, 6, 7, 8, 9, 10, 11, 12, 13, 14] mixed (by kernel_rfl) ?_; intro K hK
  refine eM ?_
  refine eF fo50_1 ?_
  refine eL sh3 ?_
  refine eM ?_
  refine eF fo50_0 ?_
  refine eL sh3 ?_
  obtain ⟨x21, e21, h2⟩ := bind_e h2
  refine eP (fun H hH => yv_callP rfl rfl (.cons rfl (.cons rfl (.cons rfl .nil))) cal86 (CvL.refl _) (d_money_Part_c e21)) ?_
  refine eF fo50_2 ?_
  refine eL sh3 ?_
  refine eM ?_
  refine eF fo50_0 ?_
  refine eL sh3 ?_
  obtain ⟨x22, e22, h2⟩ := bind_e h2
  refine eP (fun H hH => yv_callP rfl rfl (.cons rfl (.cons rfl (.cons rfl .nil))) cal86 (CvL.refl _) (d_money_Part_c e22)) ?_
  refine eP (fun H hH => yv_build (cs := [int y0_3, int x21, int x22]) (ps := [(0, _), (1, _), (2, _)]) rfl pl50 z50 rfl (.cons rfl (.cons rfl (.cons rfl .nil))) (by kernel_rfl)) ?_
  refine de_eff0 rfl rfl rfl rfl (Yield.weak (yl_ob (ob' := (⟨50, 3, true, true, v16, [[int y0_3, int x21, int x22]]⟩ : AObj)) (yl_store rfl sh50 rfl rfl rfl rfl rfl rfl rfl rfl rfl) rfl) (fun _ h => h) (fun _ _ => trivial)) (by rintro _ _ ⟨rfl, rfl⟩; exact trivial) ?_; rintro _ _ ⟨rfl, rfl⟩
  refine de_nil (hK _ ?_)
  refine c_drawE [0, 0, 0, 0, 8, 24, 56, 0, 128, 504, 0, 1024, 3072, 7168, 0, 16384, 64512, 0, 131072, 393216, 917504, 0, 2097152, 8257536, 1982457, 18759673, 52314105, 119537659, 253755387, 522190843, 1073741823, 2147483647, 4294967295] (rl [(4, [2]), (5, [2]), (6, [2]), (7, [4]), (8, [4]), (11, [2]), (12, [2]), (13, [2]), (14, [4]), (15, [4]), (18, [2]), (19, [2]), (20, [2]), (21, [4]), (22, [4]), (24, [2]), (25, [2]), (27, [2]), (28, [2]), (30, [2]), (31, [2])] []) (rl [(26, [4]), (29, [4]), (32, [])] [2, 4]) (rl [(26, false), (29, false), (32, false)] true) [0, 1, 2, 3, 4, 5, 6, 7, 8, 9, 10, 11, 12, 13, 14, 15, 16, 17, 18, 19, 20, 21, 22, 23, 24, 25, 26, 27, 28, 29, 30, 31, 32] mixed (by kernel_rfl) ?_; intro K hK
  iterate 4 refine eM ?_
  obtain ⟨p23, h2⟩ := asrt_e h2
  refine de_pure rfl rfl rfl rfl (fun H hH => yv_ixW rfl Tryz.underlying39 sh50 rfl rfl ((hH _ (by decide)).trans rfl) rfl rfl p23 (List.length_map _) e15) ?_
  refine eF fo50_0 (hr := ix_get e15) ?_
  refine eL sh3 (hr := ix_get e15) ?_
  refine eF fo50_0 ?_
  refine eL sh3 ?_
  obtain ⟨x24, e24, h2⟩ := bnd_e h2
  refine eP (fun H hH => yv_sub rfl rfl rfl e24) ?_
  refine eM ?_
  obtain ⟨p25, h2⟩ := asrt_e h2
  refine de_pure rfl rfl rfl rfl (fun H hH => yv_ixW rfl Tryz.underlying39 sh50 rfl rfl ((hH _ (by decide)).trans rfl) rfl rfl p25 (List.length_map _) e15) ?_
  refine eF fo50_1 (hr := ix_get e15) ?_
  refine eL sh3 (hr := ix_get e15) ?_
  refine eF fo50_1 ?_
  refine eL sh3 ?_
  obtain ⟨x26, e26, h2⟩ := bnd_e h2
  refine eP (fun H hH => yv_sub rfl rfl rfl e26) ?_
  refine eM ?_
  obtain ⟨p27, h2⟩ := asrt_e h2
  refine de_pure rfl rfl rfl rfl (fun H hH => yv_ixW rfl Tryz.underlying39 sh50 rfl rfl ((hH _ (by decide)).trans rfl) rfl rfl p27 (List.length_map _) e15) ?_
  refine eF fo50_2 (hr := ix_get e15) ?_
  refine eL sh3 (hr := ix_get e15) ?_
  refine eF fo50_2 ?_
  refine eL sh3 ?_
  obtain ⟨x28, e28, h2⟩ := bnd_e h2
  refine eP (fun H hH => yv_sub rfl rfl rfl e28) ?_
  obtain ⟨p29, h2⟩ := asrt_e h2
  refine de_pure rfl rfl rfl rfl (fun H hH => yv_ixW rfl Tryz.underlying39 sh50 rfl rfl ((hH _ (by decide)).trans rfl) rfl rfl p29 (List.length_map _) e15) ?_
  refine eF fo50_0 (hr := ix_get e15) ?_
  obtain ⟨x30, e30, h2⟩ := bnd_e h2
  have fx30 := ix_set e15 e30; have lx30 := len_setV e30 (rfl : y0_4.length = y0_4.length)
  refine de_eff0 rfl rfl rfl rfl (Yield.weak (yl_ob (ob' := (⟨50, 3, true, true, v5, x30.map GLayer.av⟩ : AObj)) (yl_store rfl sh3 rfl rfl rfl rfl rfl (ix_get e15) rfl rfl rfl) (ob_eq (map_setV e30))) (fun _ h => h) (fun _ _ => trivial)) (by rintro _ _ ⟨rfl, rfl⟩; exact ⟨rfl, trivial⟩) ?_; rintro _ _ ⟨rfl, rfl⟩
  obtain ⟨p31, h2⟩ := asrt_e h2
  refine de_pure rfl rfl rfl rfl (fun H hH => yv_ixW rfl Tryz.underlying39 sh50 rfl rfl ((hH _ (by decide)).trans rfl) rfl rfl p31 (List.length_map _) fx30) ?_
  refine eF fo50_1 (hr := ix_get fx30) ?_
  obtain ⟨x32, e32, h2⟩ := bnd_e h2
  have fx32 := ix_set fx30 e32; have lx32 := len_setV e32 lx30
  refine de_eff0 rfl rfl rfl rfl (Yield.weak (yl_ob (ob' := (⟨50, 3, true, true, v5, x32.map GLayer.av⟩ : AObj)) (yl_store rfl sh3 rfl rfl rfl rfl rfl (ix_get fx30) rfl rfl rfl) (ob_eq (map_setV e32))) (fun _ h => h) (fun _ _ => trivial)) (by rintro _ _ ⟨rfl, rfl⟩; exact ⟨rfl, trivial⟩) ?_; rintro _ _ ⟨rfl, rfl⟩
  obtain ⟨p33, h2⟩ := asrt_e h2
  refine de_pure rfl rfl rfl rfl (fun H hH => yv_ixW rfl Tryz.underlying39 sh50 rfl rfl ((hH _ (by decide)).trans rfl) rfl rfl p33 (List.length_map _) fx32) ?_
  refine eF fo50_2 (hr := ix_get fx32) ?_
  obtain ⟨x34, e34, h2⟩ := bnd_e h2
  have fx34 := ix_set fx32 e34; have lx34 := len_setV e34 lx32
  refine de_eff0 rfl rfl rfl rfl (Yield.weak (yl_ob (ob' := (⟨50, 3, true, true, v5, x34.map GLayer.av⟩ : AObj)) (yl_store rfl sh3 rfl rfl rfl rfl rfl (ix_get fx32) rfl rfl rfl) (ob_eq (map_setV e34))) (fun _ h => h) (fun _ _ => trivial)) (by rintro _ _ ⟨rfl, rfl⟩; exact trivial) ?_; rintro _ _ ⟨rfl, rfl⟩
  refine de_nil (hK _ ?_)
  exact lf h2 () leA
  rintro ⟨y2_1, y2_2, y2_3, y2_4⟩ _ h1
  replace h1 := p2_e h1
  replace h1 := p2_e h1
  replace h1 := p2_e h1
  refine tc tbk 1 (.mk ?_)
  refine c_drawE [0, 1, 0, 4, 15, 0, 32, 0, 128, 480, 0, 1024, 0, 4096, 15360, 3199, 35967, 102399, 233471, 524287, 1048575] (rl [(0, [3]), (1, [3]), (2, [4]), (3, [4]), (5, [3]), (6, [3]), (7, [4]), (8, [4]), (10, [3]), (11, [3]), (12, [4]), (13, [4]), (15, [3]), (17, [3]), (19, [3])] []) (rl [(16, [4]), (18, [4]), (20, [])] [3, 4]) (rl [(16, false), (18, false), (20, false)] true) [0, 1, 2, 3, 4, 5, 6, 7, 8, 9, 10, 11, 12, 13, 14, 15, 16, 17, 18, 19, 20] mixed (by kernel_rfl) ?_; intro K hK
  refine eF fo50_0 ?_
  refine eL sh3 ?_
  refine eF fo50_0 ?_
  refine eL sh3 ?_
  obtain ⟨x35, e35, h1⟩ := bnd_e h1
  refine eP (fun H hH => yv_add rfl rfl rfl e35) ?_
  refine eF fo50_1 ?_
  refine eL sh3 ?_
  refine eF fo50_1 ?_
  refine eL sh3 ?_
  obtain ⟨x36, e36, h1⟩ := bnd_e h1
  refine eP (fun H hH => yv_add rfl rfl rfl e36) ?_
  refine eF fo50_2 ?_
  refine eL sh3 ?_
  refine eF fo50_2 ?_
  refine eL sh3 ?_
  obtain ⟨x37, e37, h1⟩ := bnd_e h1
  refine eP (fun H hH => yv_add rfl rfl rfl e37) ?_
  refine eF fo50_0 ?_
  refine de_eff0 rfl rfl rfl rfl (Yield.weak (yl_ob (ob' := (⟨50, 3, true, true, v9, [[int x35, int y0_5.Value, int y0_5.Profit]]⟩ : AObj)) (yl_store rfl sh3 rfl rfl rfl rfl rfl rfl rfl rfl rfl) rfl) (fun _ h => h) (fun _ _ => trivial)) (by rintro _ _ ⟨rfl, rfl⟩; exact ⟨rfl, trivial⟩) ?_; rintro _ _ ⟨rfl, rfl⟩
  refine eF fo50_1 ?_
  refine de_eff0 rfl rfl rfl rfl (Yield.weak (yl_ob (ob' := (⟨50, 3, true, true, v9, [[int x35, int x36, int y0_5.Profit]]⟩ : AObj)) (yl_store rfl sh3 rfl rfl rfl rfl rfl rfl rfl rfl rfl) rfl) (fun _ h => h) (fun _ _ => trivial)) (by rintro _ _ ⟨rfl, rfl⟩; exact ⟨rfl, trivial⟩) ?_; rintro _ _ ⟨rfl, rfl⟩
  refine eF fo50_2 ?_
  refine de_eff0 rfl rfl rfl rfl (Yield.weak (yl_ob (ob' := (⟨50, 3, true, true, v9, [[int x35, int x36, int x37]]⟩ : AObj)) (yl_store rfl sh3 rfl rfl rfl rfl rfl rfl rfl rfl rfl) rfl) (fun _ h => h) (fun _ _ => trivial)) (by rintro _ _ ⟨rfl, rfl⟩; exact trivial) ?_; rintro _ _ ⟨rfl, rfl⟩
  refine de_nil (hK _ ?_)
  refine tc tbk 4 (.mk ?_)
  refine ni tbk h1 fun x38 h1 => ?_
  refine tr tbk 3 (.mk ?_)
  exact bk (y2_1, y2_2, x38, y2_3, (⟨x35, x36, x37⟩ : GLayer)) () h1 leA
  rintro ⟨y3_1, y3_2, y3_3, y3_4⟩ _ h0
  replace h0 := p2_e h0
  replace h0 := p2_e h0
  replace h0 := p2_e h0
  refine tc tbk 1 (.mk ?_)
  refine c_drawE [0, 0, 1, 7, 15] (rl [(1, [3])] []) (rl [(3, [])] [3]) (rl [(3, false)] true) [0, 1, 2, 3, 4] mixed (by kernel_rfl) ?_; intro K hK
  refine eM ?_
  refine eL sh50 ?_
  refine eA ?_
  refine de_eff0 rfl rfl rfl rfl (Yield.weak (yl_ob (ob' := (⟨50, 3, true, true, v3, [[int y3_4.Qty, int y3_4.Value, int y3_4.Profit]]⟩ : AObj)) (yl_store rfl sh50 rfl rfl rfl rfl rfl rfl rfl rfl rfl) rfl) (fun _ h => h) (fun _ _ => trivial)) (by rintro _ _ ⟨rfl, rfl⟩; exact trivial) ?_; rintro _ _ ⟨rfl, rfl⟩
  refine eA ?_
  refine de_nil (hK _ ?_)
  obtain ⟨p39, h0⟩ := asrt_e h0
  obtain rfl := nxt_e h0
  refine wR hret (rT (rC sh50 (rT .nil))) ?_
  exact CvL.tup (.cons (cv_win (l := y3_3) rfl rfl rfl rfl (CvLL.refl _) (by first | omega | (simp only [List.length_set]; omega)) rfl) (.cons (.refl _) (.cons (.refl _) .nil)))
  replace h0 := ct h0
  refine tc tbk 6 (.mk ?_)
  refine sS ⟨50, 3, true, true, v3, [[int 0, int 0, int 0]]⟩ sh50 ?_
  refine tr tbk 2 (.mk ?_)
  obtain rfl := nxt_e h0
  refine wR hret (rT (rC sh50 (rT .nil))) ?_
  exact CvL.tup (.cons (cv_lst rfl rfl rfl rfl rfl (Eq.symm rfl)) (.cons (.refl _) (.cons (.refl _) .nil)))
  replace h0 := ct h0
  refine tc tbk 6 (.mk ?_)
  refine sS ⟨50, 3, true, true, v3, [[int 0, int 0, int 0]]⟩ sh50 ?_
  refine tr tbk 2 (.mk ?_)
  obtain rfl := nxt_e h0
  refine wR hret (rT (rC sh50 (rT .nil))) ?_
  exact CvL.tup (.cons (cv_lst rfl rfl rfl rfl rfl (Eq.symm rfl)) (.cons (.refl _) (.cons (.refl _) .nil)))
def d_mavg_Out (n : Nat) (a1 : List GLayer) (a2 : Int) : Option ((List GLayer) × GLayer × Int) :=
(show Option ((Unit)) from
some ()).bind <| fun _ =>
(d_fifo_Out n a1 a2).bind fun x6 =>
some ((x6.1 : List GLayer), (x6.2.1 : GLayer), (x6.2.2 : Int))
theorem d_mavg_Out_c {n : Nat} {a1 : List GLayer} {a2 : Int} {r : (List GLayer) × GLayer × Int} (h0 : d_mavg_Out n a1 a2 = some r) : PP Tryz.prog 273 [lst 3 GLayer.av a1, int a2] (fun y => y = .tup [lst 3 GLayer.av r.1, .agg (GLayer.av r.2.1), int r.2.2]) := by
  unfold d_mavg_Out at h0
  refine pp_of_pc (R0 := fun y H => Cv (frzH H) y (.tup [lst 3 GLayer.av r.1, .agg (GLayer.av r.2.1), int r.2.2])) ?_ (fun y H hc => ⟨_, rfl, .tup (pvl3 ((pvLs GLayer.pvc) (r.1)) ((fun (a : GLayer) => PV.agg (GLayer.pvc a)) (r.2.1)) (pvI (r.2.2))), hc⟩)
  refine pcw (c := _) Tryz.func273 rfl rfl ?_; intro Q hret hnorm
  refine tc tbk 3 (.mk ?_)
  refine sA 1 z50 fun v3 => ?_
  refine tr tbk 4 (.mk ?_)
  obtain ⟨j4, h1, h0⟩ := bind_e h0
  refine rse (Out := fun y H' => (∃ (a : Unit) (k : Unit), a = j4 ∧ y = .agg [.fn (.func 267) [] [], .fn (.func 268) [] [], .fn (.func 99) [] []] ∧ H' = hk [(1, ⟨50, 3, true, true, v3, [[int 0, int 0, int 0]]⟩)])) rfl rfl rfl (yl_call rfl rfl .nil cal274 ?_) ?_
  refine pcw (c := _) Tryz.func274 rfl rfl ?_; intro Q hret hnorm
  refine tc tbk 2 (.mk ?_)
  refine sA 2 z277 fun v5 => ?_
  refine tr tbk 4 (.mk ?_)
  refine sS ⟨277, 3, true, true, v5, [[.fn (.func 267) [] [], .fn (.func 268) [] [], .fn (.func 99) [] []]]⟩ sh277 ?_
  refine tr tbk 1 (.mk ?_)
  obtain rfl := nxt_e h1
  refine w_ret (hret _ _ (hk [(1, ⟨50, 3, true, true, v3, [[int 0, int 0, int 0]]⟩)]) (.cell rfl (.pt rfl rfl rfl) sh277 rfl .nil) (HK.le ⟨rfl, trivial⟩) ?_)
  exact ⟨(), (), rfl, rfl, rfl⟩
  rintro y _ ⟨_, _, rfl, hc, rfl⟩
  subst hc
  refine tr tbk 3 (.mk ?_)
  obtain ⟨x6, e6, h0⟩ := bind_e h0
  refine sC cal268 (d_fifo_Out_c e6) ?_
  refine tr tbk 4 (.mk ?_)
  refine sS ⟨50, 3, true, true, v3, [[int x6.2.1.Qty, int x6.2.1.Value, int x6.2.1.Profit]]⟩ sh50 ?_
  refine tr tbk 2 (.mk ?_)
  obtain rfl := nxt_e h0
  refine wR hret (rT (rC sh50 (rT .nil))) ?_
  exact .refl _
def d_pavg_Out (n : Nat) (a1 : GPool) (a2 : Int) : Option (GPool × GLayer × Int) :=
bnd (decide (a2 < 1)) fun x6 =>
cond x6 ((d_pavg_own a1 a1.Layers).bind fun x13 =>
some ((x13 : GPool), ((⟨0, 0, 0⟩ : GLayer) : GLayer), (1 : Int))) ((d_pavg_Free n a1).bind fun x7 =>
bnd (decide (a2 > x7)) fun x8 =>
cond x8 ((d_pavg_own a1 a1.Layers).bind fun x12 =>
some ((x12 : GPool), ((⟨0, 0, 0⟩ : GLayer) : GLayer), (5 : Int))) ((d_mavg_Out n a1.Layers a2).bind fun x9 =>
(d_pavg_own a1 x9.1).bind fun x11 =>
some ((x11 : GPool), (x9.2.1 : GLayer), (x9.2.2 : Int))))
theorem d_pavg_Out_c {n : Nat} {a1 : GPool} {a2 : Int} {r : GPool × GLayer × Int} (h0 : d_pavg_Out n a1 a2 = some r) : PP Tryz.prog 278 [.agg (GPool.av a1), int a2] (fun y => y = .tup [.agg (GPool.av r.1), .agg (GLayer.av r.2.1), int r.2.2]) := by
  unfold d_pavg_Out at h0
  refine pp_of_pc (R0 := fun y H => Cv (frzH H) y (.tup [.agg (GPool.av r.1), .agg (GLayer.av r.2.1), int r.2.2])) ?_ (fun y H hc => ⟨_, rfl, .tup (pvl3 ((fun (a : GPool) => PV.agg (GPool.pvc a)) (r.1)) ((fun (a : GLayer) => PV.agg (GLayer.pvc a)) (r.2.1)) (pvI (r.2.2))), hc⟩)
  refine pcw (c := _) Tryz.func278 rfl rfl ?_; intro Q hret hnorm
  refine tc tbk 2 (.mk ?_)
  refine sB 1 fun v3 => ?_
  refine sA 2 z42 fun v4 => ?_
  refine sA 3 z50 fun v5 => ?_
  refine tr tbk 7 (.mk ?_)
  refine nb tbk h0 fun x6 h0 => ?_
  refine tr tbk 2 (.mk ?_)
  cases x6
  replace h0 := cf h0
  refine tc tbk 5 (.mk ?_)
  obtain ⟨x7, e7, h0⟩ := bind_e h0
  refine sC cal149 (d_pavg_Free_c e7) ?_
  refine nb tbk h0 fun x8 h0 => ?_
  refine tr tbk 2 (.mk ?_)
  cases x8
  replace h0 := cf h0
  refine tc tbk 8 (.mk ?_)
  obtain ⟨x9, e9, h0⟩ := bind_e h0
  refine sC cal273 (d_mavg_Out_c e9) ?_
  refine tr tbk 4 (.mk ?_)
  refine sA 4 z50 fun v10 => ?_
  refine tr tbk 1 (.mk ?_)
  refine sS ⟨50, 3, true, true, v10, [[int x9.2.1.Qty, int x9.2.1.Value, int x9.2.1.Profit]]⟩ sh50 ?_
  refine tr tbk 3 (.mk ?_)
  refine c_drawE [0, 0, 3, 0, 0, 7, 47, 127] (rl [(0, [1]), (3, [4])] []) (rl [(5, [4]), (6, [])] [1, 4]) (rl [(5, false), (6, false)] true) [0, 1, 2, 3, 4, 5, 6, 7] mixed (by kernel_rfl) ?_; intro K hK
  refine eL sh42 ?_
  refine eM ?_
  obtain ⟨x11, e11, h0⟩ := bind_e h0
  refine eP (fun H hH => yv_callP rfl rfl (.cons rfl (.cons rfl .nil)) cal147 (CvL.refl _) (d_pavg_own_c e11)) ?_
  refine eL sh50 ?_
  refine eM ?_
  refine de_eff0 rfl rfl rfl rfl (Yield.weak (yl_ob (ob' := (⟨42, 4, true, true, v4, [[lst 3 GLayer.av x11.Layers, int x11.Pend.a0, int x11.Pend.a1, int x11.Pend.a2]]⟩ : AObj)) (yl_store rfl sh42 rfl rfl rfl rfl rfl rfl rfl rfl rfl) rfl) (fun _ h => h) (fun _ _ => trivial)) (by rintro _ _ ⟨rfl, rfl⟩; exact ⟨rfl, trivial⟩) ?_; rintro _ _ ⟨rfl, rfl⟩
  refine de_eff0 rfl rfl rfl rfl (Yield.weak (yl_ob (ob' := (⟨50, 3, true, true, v5, [[int x9.2.1.Qty, int x9.2.1.Value, int x9.2.1.Profit]]⟩ : AObj)) (yl_store rfl sh50 rfl rfl rfl rfl rfl rfl rfl rfl rfl) rfl) (fun _ h => h) (fun _ _ => trivial)) (by rintro _ _ ⟨rfl, rfl⟩; exact trivial) ?_; rintro _ _ ⟨rfl, rfl⟩
  refine eA ?_
  refine de_nil (hK _ ?_)
  obtain rfl := nxt_e h0
  refine wR hret (rC sh42 (rC sh50 (rT .nil))) ?_
  exact .refl _
  replace h0 := ct h0
  refine tc tbk 6 (.mk ?_)
  obtain ⟨x12, e12, h0⟩ := bind_e h0
  refine sC cal147 (d_pavg_own_c e12) ?_
  refine tr tbk 1 (.mk ?_)
  refine sS ⟨42, 4, true, true, v4, [[lst 3 GLayer.av x12.Layers, int x12.Pend.a0, int x12.Pend.a1, int x12.Pend.a2]]⟩ sh42 ?_
  refine sS ⟨50, 3, true, true, v5, [[int 0, int 0, int 0]]⟩ sh50 ?_
  refine tr tbk 2 (.mk ?_)
  obtain rfl := nxt_e h0
  refine wR hret (rC sh42 (rC sh50 (rT .nil))) ?_
  exact .refl _
  replace h0 := ct h0
  refine tc tbk 6 (.mk ?_)
  obtain ⟨x13, e13, h0⟩ := bind_e h0
  refine sC cal147 (d_pavg_own_c e13) ?_
  refine tr tbk 1 (.mk ?_)
  refine sS ⟨42, 4, true, true, v4, [[lst 3 GLayer.av x13.Layers, int x13.Pend.a0, int x13.Pend.a1, int x13.Pend.a2]]⟩ sh42 ?_
  refine sS ⟨50, 3, true, true, v5, [[int 0, int 0, int 0]]⟩ sh50 ?_
  refine tr tbk 2 (.mk ?_)
  obtain rfl := nxt_e h0
  refine wR hret (rC sh42 (rC sh50 (rT .nil))) ?_
  exact .refl _
def d_pavg_is (a1 : Int) : Option (Bool) :=
(show Option (Bool) from
bnd (decide (a1 ≥ 0)) fun x3 =>
cond x3 (bnd (decide (a1 < 3)) fun x4 =>
some (x4 : Bool)) (some (false : Bool))).bind <| fun y0_1 =>
some ((y0_1 : Bool))
theorem d_pavg_is_c {a1 : Int} {r : Bool} (h0 : d_pavg_is a1 = some r) : PP Tryz.prog 148 [int a1] (fun y => y = boo r) := by
  unfold d_pavg_is at h0
  refine pp_of_pc (R0 := fun y H => Cv (frzH H) y (boo r)) ?_ (fun y H hc => ⟨_, rfl, pvB r, hc⟩)
  refine pcw (c := _) Tryz.func148 rfl rfl ?_; intro Q hret hnorm
  refine tc tbk 5 (.mk ?_)
  refine jn h0 [] [] (fun (a : Bool) (k : Unit) => [(2, boo a)]) (fun a k => []) ⟨fun j2 h1 => ?_, ?_⟩
  refine tc tbk 2 (.mk ?_)
  refine nb tbk h1 fun x3 h1 => ?_
  refine tr tbk 1 (.mk ?_)
  cases x3
  replace h1 := cf h1
  refine tr tbk 5 (.mk ?_)
  exact lf h1 () leA
  replace h1 := ct h1
  refine tr tbk 1 (.mk ?_)
  refine nb tbk h1 fun x4 h1 => ?_
  refine tr tbk 3 (.mk ?_)
  exact lf h1 () leA
  rintro y0_1 _ h0
  obtain rfl := nxt_e h0
  refine wR hret (rT .nil) ?_
  exact .refl _
def d_pavg_Wait (n : Nat) (a1 : GPool) (a2 : Int) (a3 : Int) : Option (GPool × Int) :=
(d_pavg_own a1 a1.Layers).bind fun x6 =>
(show Option (Bool) from
(d_pavg_is a2).bind fun x8 =>
bnd (!x8) fun x9 =>
cond x9 (some (true : Bool)) (bnd (decide (a3 < 1)) fun x10 =>
some (x10 : Bool))).bind <| fun y0_1 =>
cond y0_1 (some ((x6 : GPool), (1 : Int))) ((d_pavg_Free n x6).bind fun x11 =>
bnd (decide (a3 > x11)) fun x12 =>
cond x12 (some ((x6 : GPool), (5 : Int))) (bnd (decide (a2 = 0)) fun x13 =>
cond x13 (bnd (w64 (x6.Pend.a0 + a3)) fun x18 =>
some (((⟨x6.Layers, (⟨x18, x6.Pend.a1, x6.Pend.a2⟩ : A3_Int)⟩ : GPool) : GPool), (0 : Int))) (bnd (decide (a2 = 1)) fun x14 =>
cond x14 (bnd (w64 (x6.Pend.a1 + a3)) fun x17 =>
some (((⟨x6.Layers, (⟨x6.Pend.a0, x17, x6.Pend.a2⟩ : A3_Int)⟩ : GPool) : GPool), (0 : Int))) (asrt (a2 = 2) <|
bnd (w64 (x6.Pend.a2 + a3)) fun x16 =>
some (((⟨x6.Layers, (⟨x6.Pend.a0, x6.Pend.a1, x16⟩ : A3_Int)⟩ : GPool) : GPool), (0 : Int))))))
theorem d_pavg_Wait_c {n : Nat} {a1 : GPool} {a2 : Int} {a3 : Int} {r : GPool × Int} (h0 : d_pavg_Wait n a1 a2 a3 = some r) : PP Tryz.prog 102 [.agg (GPool.av a1), int a2, int a3] (fun y => y = .tup [.agg (GPool.av r.1), int r.2]) := by
  unfold d_pavg_Wait at h0
  refine pp_of_pc (R0 := fun y H => Cv (frzH H) y (.tup [.agg (GPool.av r.1), int r.2])) ?_ (fun y H hc => ⟨_, rfl, .tup (pvl2 ((fun (a : GPool) => PV.agg (GPool.pvc a)) (r.1)) (pvI (r.2))), hc⟩)
  refine pcw (c := _) Tryz.func102 rfl rfl ?_; intro Q hret hnorm
  refine tc tbk 2 (.mk ?_)
  refine sB 1 fun v4 => ?_
  refine sA 2 z42 fun v5 => ?_
  refine tr tbk 7 (.mk ?_)
  obtain ⟨x6, e6, h0⟩ := bind_e h0
  refine sC cal147 (d_pavg_own_c e6) ?_
  refine sS ⟨42, 4, true, true, v4, [[lst 3 GLayer.av x6.Layers, int x6.Pend.a0, int x6.Pend.a1, int x6.Pend.a2]]⟩ sh42 ?_
  refine tr tbk 4 (.mk ?_)
  refine jn h0 [1, 2, 3, 6, 7] [1, 2] (fun (a : Bool) (k : Unit) => [(12, boo a)]) (fun a k => []) ⟨fun j7 h1 => ?_, ?_⟩
  refine tc tbk 2 (.mk ?_)
  obtain ⟨x8, e8, h1⟩ := bind_e h1
  refine sC cal148 (d_pavg_is_c e8) ?_
  refine nb tbk h1 fun x9 h1 => ?_
  refine tr tbk 1 (.mk ?_)
  cases x9
  replace h1 := cf h1
  refine tr tbk 1 (.mk ?_)
  refine nb tbk h1 fun x10 h1 => ?_
  refine tr tbk 3 (.mk ?_)
  exact lf h1 () leA
  replace h1 := ct h1
  refine tr tbk 5 (.mk ?_)
  exact lf h1 () leA
  rintro y0_1 _ h0
  cases y0_1
  replace h0 := cf h0
  refine tc tbk 5 (.mk ?_)
  obtain ⟨x11, e11, h0⟩ := bind_e h0
  refine sC cal149 (d_pavg_Free_c e11) ?_
  refine nb tbk h0 fun x12 h0 => ?_
  refine tr tbk 2 (.mk ?_)
  cases x12
  replace h0 := cf h0
  refine tc tbk 7 (.mk ?_)
  obtain ⟨x13, e13, h0⟩ := bnd_e h0
  cases x13
  replace h0 := cf h0
  obtain ⟨x14, e14, h0⟩ := bnd_e h0
  cases x14
  replace h0 := cf h0
  obtain ⟨p15, h0⟩ := asrt_e h0
  refine rsas 27 (int 2) rfl (congrArg int p15) ?_
  refine sY (yv_to (y := .pt 1 v4 0 3) (yv_indexAddrA rfl Tryz.underlying40 sh3 rfl rfl rfl rfl rfl (by decide)) rfl) ?_
  refine tr tbk 2 (.mk ?_)
  refine ni tbk h0 fun x16 h0 => ?_
  refine tr tbk 1 (.mk ?_)
  refine sY (yv_to (y := .pt 1 v4 0 3) (yv_indexAddrA rfl Tryz.underlying40 sh3 rfl rfl rfl rfl rfl (by decide)) rfl) ?_
  refine sS ⟨42, 4, true, true, v4, [[lst 3 GLayer.av x6.Layers, int x6.Pend.a0, int x6.Pend.a1, int x16]]⟩ sh3 ?_
  refine tr tbk 4 (.mk ?_)
  refine sS ⟨42, 4, true, true, v5, [[lst 3 GLayer.av x6.Layers, int x6.Pend.a0, int x6.Pend.a1, int x16]]⟩ sh42 ?_
  refine tr tbk 2 (.mk ?_)
  obtain rfl := nxt_e h0
  refine wR hret (rC sh42 (rT .nil)) ?_
  exact .refl _
  replace h0 := ct h0
  refine rsas 27 (int 1) rfl (congrArg int (of_decide_eq_true e14)) ?_
  refine sY (yv_to (y := .pt 1 v4 0 2) (yv_indexAddrA rfl Tryz.underlying40 sh3 rfl rfl rfl rfl rfl (by decide)) rfl) ?_
  refine tr tbk 2 (.mk ?_)
  refine ni tbk h0 fun x17 h0 => ?_
  refine tr tbk 1 (.mk ?_)
  refine sY (yv_to (y := .pt 1 v4 0 2) (yv_indexAddrA rfl Tryz.underlying40 sh3 rfl rfl rfl rfl rfl (by decide)) rfl) ?_
  refine sS ⟨42, 4, true, true, v4, [[lst 3 GLayer.av x6.Layers, int x6.Pend.a0, int x17, int x6.Pend.a2]]⟩ sh3 ?_
  refine tr tbk 4 (.mk ?_)
  refine sS ⟨42, 4, true, true, v5, [[lst 3 GLayer.av x6.Layers, int x6.Pend.a0, int x17, int x6.Pend.a2]]⟩ sh42 ?_
  refine tr tbk 2 (.mk ?_)
  obtain rfl := nxt_e h0
  refine wR hret (rC sh42 (rT .nil)) ?_
  exact .refl _
  replace h0 := ct h0
  refine rsas 27 (int 0) rfl (congrArg int (of_decide_eq_true e13)) ?_
  refine sY (yv_to (y := .pt 1 v4 0 1) (yv_indexAddrA rfl Tryz.underlying40 sh3 rfl rfl rfl rfl rfl (by decide)) rfl) ?_
  refine tr tbk 2 (.mk ?_)
  refine ni tbk h0 fun x18 h0 => ?_
  refine tr tbk 1 (.mk ?_)
  refine sY (yv_to (y := .pt 1 v4 0 1) (yv_indexAddrA rfl Tryz.underlying40 sh3 rfl rfl rfl rfl rfl (by decide)) rfl) ?_
  refine sS ⟨42, 4, true, true, v4, [[lst 3 GLayer.av x6.Layers, int x18, int x6.Pend.a1, int x6.Pend.a2]]⟩ sh3 ?_
  refine tr tbk 4 (.mk ?_)
  refine sS ⟨42, 4, true, true, v5, [[lst 3 GLayer.av x6.Layers, int x18, int x6.Pend.a1, int x6.Pend.a2]]⟩ sh42 ?_
  refine tr tbk 2 (.mk ?_)
  obtain rfl := nxt_e h0
  refine wR hret (rC sh42 (rT .nil)) ?_
  exact .refl _
  replace h0 := ct h0
  refine tc tbk 4 (.mk ?_)
  refine sS ⟨42, 4, true, true, v5, [[lst 3 GLayer.av x6.Layers, int x6.Pend.a0, int x6.Pend.a1, int x6.Pend.a2]]⟩ sh42 ?_
  refine tr tbk 2 (.mk ?_)
  obtain rfl := nxt_e h0
  refine wR hret (rC sh42 (rT .nil)) ?_
  exact .refl _
  replace h0 := ct h0
  refine tc tbk 4 (.mk ?_)
  refine sS ⟨42, 4, true, true, v5, [[lst 3 GLayer.av x6.Layers, int x6.Pend.a0, int x6.Pend.a1, int x6.Pend.a2]]⟩ sh42 ?_
  refine tr tbk 2 (.mk ?_)
  obtain rfl := nxt_e h0
  refine wR hret (rC sh42 (rT .nil)) ?_
  exact .refl _
def d_pool_Out (n : Nat) (a1 : Int) (a2 : Int) (a3 : GPool) (a4 : Int) (a5 : Int) : Option (GPool × GLayer × Bool × Int) :=
(show Option ((Unit) ⊕ (Unit) ⊕ (Unit) ⊕ (Unit) ⊕ (Unit)) from
bnd (decide (a1 = 1)) fun x10 =>
cond x10 (some (.inr (.inr (.inr (.inr ()))))) (bnd (decide (a1 = 2)) fun x11 =>
cond x11 (some (.inr (.inr (.inr (.inl ()))))) (bnd (decide (a1 = 3)) fun x12 =>
cond x12 (some (.inr (.inr (.inl ())))) (bnd (decide (a1 = 4)) fun x13 =>
cond x13 (some (.inr (.inl ()))) (some (.inl ())))))).bind <| selr (fun _ =>
(d_pool_own a3).bind fun x14 =>
some ((x14 : GPool), ((⟨0, 0, 0⟩ : GLayer) : GLayer), (false : Bool), (12 : Int))) <| selr (fun _ =>
(show Option (Bool) from
bnd (decide (a4 < 0)) fun x16 =>
cond x16 (some (true : Bool)) (bnd (decide (a4 > 3)) fun x17 =>
some (x17 : Bool))).bind <| fun y5_1 =>
cond y5_1 ((d_pool_own a3).bind fun x32 =>
some ((x32 : GPool), ((⟨0, 0, 0⟩ : GLayer) : GLayer), (false : Bool), (1 : Int))) ((show Option ((Unit)) from
some ()).bind <| fun _ =>
(show Option ((GPool × GLayer × Int)) from
(d_stdcost_Out n a3.Layers a5 a2).bind fun x27 =>
(d_pool_with a3 x27.1).bind fun x29 =>
some ((x29 : GPool), (x27.2.1 : GLayer), (x27.2.2 : Int))).bind <| p2 fun (y7_1 : GPool) (q0 : GLayer × Int) => (p2 fun (y7_2 : GLayer) (y7_3 : Int) =>
bnd (decide (y7_3 ≠ 0)) fun x30 =>
cond x30 ((d_pool_own a3).bind fun x31 =>
some ((x31 : GPool), ((⟨0, 0, 0⟩ : GLayer) : GLayer), (false : Bool), (y7_3 : Int))) (some ((y7_1 : GPool), (y7_2 : GLayer), (false : Bool), (0 : Int)))) q0)) <| selr (fun _ =>
(show Option (Bool) from
bnd (decide (a4 < 0)) fun x34 =>
cond x34 (some (true : Bool)) (bnd (decide (a4 > 3)) fun x35 =>
some (x35 : Bool))).bind <| fun y5_1 =>
cond y5_1 ((d_pool_own a3).bind fun x51 =>
some ((x51 : GPool), ((⟨0, 0, 0⟩ : GLayer) : GLayer), (false : Bool), (1 : Int))) ((show Option ((Unit)) from
some ()).bind <| fun _ =>
bnd (decide (a4 ≠ 3)) fun x40 =>
(show Option (Int × Bool × GLayer × GPool) from
cond x40 ((d_pavg_Wait n a3 a4 a5).bind fun x48 =>
some ((x48.2 : Int), (true : Bool), ((⟨0, 0, 0⟩ : GLayer) : GLayer), (x48.1 : GPool))) ((show Option ((GPool × GLayer × Int)) from
(d_pavg_Out n a3 a5).bind fun x47 =>
some ((x47.1 : GPool), (x47.2.1 : GLayer), (x47.2.2 : Int))).bind <| p2 fun (y10_1 : GPool) (q0 : GLayer × Int) => (p2 fun (y10_2 : GLayer) (y10_3 : Int) =>
some ((y10_3 : Int), (false : Bool), (y10_2 : GLayer), (y10_1 : GPool))) q0)).bind <| p2 fun (y9_1 : Int) (q0 : Bool × GLayer × GPool) => (p2 fun (y9_2 : Bool) (q1 : GLayer × GPool) => (p2 fun (y9_3 : GLayer) (y9_4 : GPool) =>
bnd (decide (y9_1 ≠ 0)) fun x49 =>
cond x49 ((d_pool_own a3).bind fun x50 =>
some ((x50 : GPool), ((⟨0, 0, 0⟩ : GLayer) : GLayer), (false : Bool), (y9_1 : Int))) (some ((y9_4 : GPool), (y9_3 : GLayer), (y9_2 : Bool), (0 : Int)))) q1) q0)) <| selr (fun _ =>
(show Option (Bool) from
bnd (decide (a4 < 0)) fun x53 =>
cond x53 (some (true : Bool)) (bnd (decide (a4 > 3)) fun x54 =>
some (x54 : Bool))).bind <| fun y5_1 =>
cond y5_1 ((d_pool_own a3).bind fun x69 =>
some ((x69 : GPool), ((⟨0, 0, 0⟩ : GLayer) : GLayer), (false : Bool), (1 : Int))) ((show Option ((Unit)) from
some ()).bind <| fun _ =>
(show Option ((GPool × GLayer × Int)) from
(d_mavg_Out n a3.Layers a5).bind fun x64 =>
(d_pool_with a3 x64.1).bind fun x66 =>
some ((x66 : GPool), (x64.2.1 : GLayer), (x64.2.2 : Int))).bind <| p2 fun (y11_1 : GPool) (q0 : GLayer × Int) => (p2 fun (y11_2 : GLayer) (y11_3 : Int) =>
bnd (decide (y11_3 ≠ 0)) fun x67 =>
cond x67 ((d_pool_own a3).bind fun x68 =>
some ((x68 : GPool), ((⟨0, 0, 0⟩ : GLayer) : GLayer), (false : Bool), (y11_3 : Int))) (some ((y11_1 : GPool), (y11_2 : GLayer), (false : Bool), (0 : Int)))) q0)) <| fun _ =>
(show Option (Bool) from
bnd (decide (a4 < 0)) fun x71 =>
cond x71 (some (true : Bool)) (bnd (decide (a4 > 3)) fun x72 =>
some (x72 : Bool))).bind <| fun y5_1 =>
cond y5_1 ((d_pool_own a3).bind fun x87 =>
some ((x87 : GPool), ((⟨0, 0, 0⟩ : GLayer) : GLayer), (false : Bool), (1 : Int))) ((show Option ((Unit)) from
some ()).bind <| fun _ =>
(show Option ((GPool × GLayer × Int)) from
(d_fifo_Out n a3.Layers a5).bind fun x82 =>
(d_pool_with a3 x82.1).bind fun x84 =>
some ((x84 : GPool), (x82.2.1 : GLayer), (x82.2.2 : Int))).bind <| p2 fun (y12_1 : GPool) (q0 : GLayer × Int) => (p2 fun (y12_2 : GLayer) (y12_3 : Int) =>
bnd (decide (y12_3 ≠ 0)) fun x85 =>
cond x85 ((d_pool_own a3).bind fun x86 =>
some ((x86 : GPool), ((⟨0, 0, 0⟩ : GLayer) : GLayer), (false : Bool), (y12_3 : Int))) (some ((y12_1 : GPool), (y12_2 : GLayer), (false : Bool), (0 : Int)))) q0)
theorem d_pool_Out_c {n : Nat} {a1 : Int} {a2 : Int} {a3 : GPool} {a4 : Int} {a5 : Int} {r : GPool × GLayer × Bool × Int} (h0 : d_pool_Out n a1 a2 a3 a4 a5 = some r) : PP Tryz.prog 51 [int a1, int a2, .agg (GPool.av a3), int a4, int a5] (fun y => y = .tup [.agg (GPool.av r.1), .agg (GLayer.av r.2.1), boo r.2.2.1, int r.2.2.2]) := by
  unfold d_pool_Out at h0
  refine pp_of_pc (R0 := fun y H => Cv (frzH H) y (.tup [.agg (GPool.av r.1), .agg (GLayer.av r.2.1), boo r.2.2.1, int r.2.2.2])) ?_ (fun y H hc => ⟨_, rfl, .tup (pvl4 ((fun (a : GPool) => PV.agg (GPool.pvc a)) (r.1)) ((fun (a : GLayer) => PV.agg (GLayer.pvc a)) (r.2.1)) (pvB (r.2.2.1)) (pvI (r.2.2.2))), hc⟩)
  refine pcw (c := _) Tryz.func51 rfl rfl ?_; intro Q hret hnorm
  refine tc tbk 2 (.mk ?_)
  refine sB 1 fun v6 => ?_
  refine sA 2 z42 fun v7 => ?_
  refine sA 3 z50 fun v8 => ?_
  refine tr tbk 7 (.mk ?_)
  obtain ⟨j9, h1, h0⟩ := bind_e h0
  refine rse (Out := fun y H' => (∃ (a : Unit) (k : Unit), (.inl a) = j9 ∧ y = .sc .nilIface ∧ H' = hk [(1, ⟨42, 4, true, true, v6, [[lst 3 GLayer.av a3.Layers, int a3.Pend.a0, int a3.Pend.a1, int a3.Pend.a2]]⟩), (2, ⟨42, 4, true, true, v7, [[.sc (.slice none 0 0), int 0, int 0, int 0]]⟩), (3, ⟨50, 3, true, true, v8, [[int 0, int 0, int 0]]⟩)]) ∨ (∃ (a : Unit) (k : Unit), (.inr (.inl a)) = j9 ∧ y = .ifc 193 (.agg [int a2]) ∧ H' = hk [(1, ⟨42, 4, true, true, v6, [[lst 3 GLayer.av a3.Layers, int a3.Pend.a0, int a3.Pend.a1, int a3.Pend.a2]]⟩), (2, ⟨42, 4, true, true, v7, [[.sc (.slice none 0 0), int 0, int 0, int 0]]⟩), (3, ⟨50, 3, true, true, v8, [[int 0, int 0, int 0]]⟩)]) ∨ (∃ (a : Unit) (k : Unit), (.inr (.inr (.inl a))) = j9 ∧ y = .ifc 191 (.agg []) ∧ H' = hk [(1, ⟨42, 4, true, true, v6, [[lst 3 GLayer.av a3.Layers, int a3.Pend.a0, int a3.Pend.a1, int a3.Pend.a2]]⟩), (2, ⟨42, 4, true, true, v7, [[.sc (.slice none 0 0), int 0, int 0, int 0]]⟩), (3, ⟨50, 3, true, true, v8, [[int 0, int 0, int 0]]⟩)]) ∨ (∃ (a : Unit) (k : Unit), (.inr (.inr (.inr (.inl a)))) = j9 ∧ y = .ifc 190 (.agg []) ∧ H' = hk [(1, ⟨42, 4, true, true, v6, [[lst 3 GLayer.av a3.Layers, int a3.Pend.a0, int a3.Pend.a1, int a3.Pend.a2]]⟩), (2, ⟨42, 4, true, true, v7, [[.sc (.slice none 0 0), int 0, int 0, int 0]]⟩), (3, ⟨50, 3, true, true, v8, [[int 0, int 0, int 0]]⟩)]) ∨ (∃ (a : Unit) (k : Unit), (.inr (.inr (.inr (.inr a)))) = j9 ∧ y = .ifc 189 (.agg []) ∧ H' = hk [(1, ⟨42, 4, true, true, v6, [[lst 3 GLayer.av a3.Layers, int a3.Pend.a0, int a3.Pend.a1, int a3.Pend.a2]]⟩), (2, ⟨42, 4, true, true, v7, [[.sc (.slice none 0 0), int 0, int 0, int 0]]⟩), (3, ⟨50, 3, true, true, v8, [[int 0, int 0, int 0]]⟩)])) rfl rfl rfl (yl_call rfl rfl (.cons rfl (.cons rfl .nil)) cal95 ?_) ?_
  refine pcw (c := _) Tryz.func95 rfl rfl ?_; intro Q hret hnorm
  refine tc tbk 12 (.mk ?_)
  refine nb tbk h1 fun x10 h1 => ?_
  refine tr tbk 2 (.mk ?_)
  cases x10
  replace h1 := cf h1
  refine tc tbk 3 (.mk ?_)
  refine nb tbk h1 fun x11 h1 => ?_
  refine tr tbk 2 (.mk ?_)
  cases x11
  replace h1 := cf h1
  refine tc tbk 3 (.mk ?_)
  refine nb tbk h1 fun x12 h1 => ?_
  refine tr tbk 2 (.mk ?_)
  cases x12
  replace h1 := cf h1
  refine tc tbk 3 (.mk ?_)
  refine nb tbk h1 fun x13 h1 => ?_
  refine tr tbk 2 (.mk ?_)
  cases x13
  replace h1 := cf h1
  refine tc tbk 7 (.mk ?_)
  obtain rfl := nxt_e h1
  refine w_ret (hret _ _ (hk [(1, ⟨42, 4, true, true, v6, [[lst 3 GLayer.av a3.Layers, int a3.Pend.a0, int a3.Pend.a1, int a3.Pend.a2]]⟩), (2, ⟨42, 4, true, true, v7, [[.sc (.slice none 0 0), int 0, int 0, int 0]]⟩), (3, ⟨50, 3, true, true, v8, [[int 0, int 0, int 0]]⟩)]) (.tmp rfl .nil) (HK.le ⟨rfl, rfl, rfl, trivial⟩) ?_)
  exact (.inl ⟨(), (), rfl, rfl, rfl⟩)
  replace h1 := ct h1
  refine tc tbk 5 (.mk ?_)
  refine sY (yv_makeIface rfl Tryz.underlying193 (by intro _ h; cases h) rfl) ?_
  refine tr tbk 2 (.mk ?_)
  obtain rfl := nxt_e h1
  refine w_ret (hret _ _ (hk [(1, ⟨42, 4, true, true, v6, [[lst 3 GLayer.av a3.Layers, int a3.Pend.a0, int a3.Pend.a1, int a3.Pend.a2]]⟩), (2, ⟨42, 4, true, true, v7, [[.sc (.slice none 0 0), int 0, int 0, int 0]]⟩), (3, ⟨50, 3, true, true, v8, [[int 0, int 0, int 0]]⟩)]) (.tmp rfl .nil) (HK.le ⟨rfl, rfl, rfl, trivial⟩) ?_)
  exact (.inr (.inl ⟨(), (), rfl, rfl, rfl⟩))
  replace h1 := ct h1
  refine tc tbk 4 (.mk ?_)
  refine sY (yv_makeIface rfl Tryz.underlying191 (by intro _ h; cases h) rfl) ?_
  refine tr tbk 2 (.mk ?_)
  obtain rfl := nxt_e h1
  refine w_ret (hret _ _ (hk [(1, ⟨42, 4, true, true, v6, [[lst 3 GLayer.av a3.Layers, int a3.Pend.a0, int a3.Pend.a1, int a3.Pend.a2]]⟩), (2, ⟨42, 4, true, true, v7, [[.sc (.slice none 0 0), int 0, int 0, int 0]]⟩), (3, ⟨50, 3, true, true, v8, [[int 0, int 0, int 0]]⟩)]) (.tmp rfl .nil) (HK.le ⟨rfl, rfl, rfl, trivial⟩) ?_)
  exact (.inr (.inr (.inl ⟨(), (), rfl, rfl, rfl⟩)))
  replace h1 := ct h1
  refine tc tbk 4 (.mk ?_)
  refine sY (yv_makeIface rfl Tryz.underlying190 (by intro _ h; cases h) rfl) ?_
  refine tr tbk 2 (.mk ?_)
  obtain rfl := nxt_e h1
  refine w_ret (hret _ _ (hk [(1, ⟨42, 4, true, true, v6, [[lst 3 GLayer.av a3.Layers, int a3.Pend.a0, int a3.Pend.a1, int a3.Pend.a2]]⟩), (2, ⟨42, 4, true, true, v7, [[.sc (.slice none 0 0), int 0, int 0, int 0]]⟩), (3, ⟨50, 3, true, true, v8, [[int 0, int 0, int 0]]⟩)]) (.tmp rfl .nil) (HK.le ⟨rfl, rfl, rfl, trivial⟩) ?_)
  exact (.inr (.inr (.inr (.inl ⟨(), (), rfl, rfl, rfl⟩))))
  replace h1 := ct h1
  refine tc tbk 4 (.mk ?_)
  refine sY (yv_makeIface rfl Tryz.underlying189 (by intro _ h; cases h) rfl) ?_
  refine tr tbk 2 (.mk ?_)
  obtain rfl := nxt_e h1
  refine w_ret (hret _ _ (hk [(1, ⟨42, 4, true, true, v6, [[lst 3 GLayer.av a3.Layers, int a3.Pend.a0, int a3.Pend.a1, int a3.Pend.a2]]⟩), (2, ⟨42, 4, true, true, v7, [[.sc (.slice none 0 0), int 0, int 0, int 0]]⟩), (3, ⟨50, 3, true, true, v8, [[int 0, int 0, int 0]]⟩)]) (.tmp rfl .nil) (HK.le ⟨rfl, rfl, rfl, trivial⟩) ?_)
  exact (.inr (.inr (.inr (.inr ⟨(), (), rfl, rfl, rfl⟩))))
  rintro y _ (⟨_, _, rfl, hc, rfl⟩ | ⟨_, _, rfl, hc, rfl⟩ | ⟨_, _, rfl, hc, rfl⟩ | ⟨_, _, rfl, hc, rfl⟩ | ⟨_, _, rfl, hc, rfl⟩)
  replace h0 := selr_l h0
  subst hc
  refine tr tbk 6 (.mk ?_)
  refine sY (yv_ifeqN rfl Tryz.underlying135 rfl rfl) ?_
  refine tr tbk 5 (.mk ?_)
  obtain ⟨x14, e14, h0⟩ := bind_e h0
  refine sC cal96 (d_pool_own_c e14) ?_
  refine tr tbk 1 (.mk ?_)
  refine sS ⟨42, 4, true, true, v7, [[lst 3 GLayer.av x14.Layers, int x14.Pend.a0, int x14.Pend.a1, int x14.Pend.a2]]⟩ sh42 ?_
  refine sS ⟨50, 3, true, true, v8, [[int 0, int 0, int 0]]⟩ sh50 ?_
  refine tr tbk 3 (.mk ?_)
  obtain rfl := nxt_e h0
  refine wR hret (rC sh42 (rC sh50 (rT (rT .nil)))) ?_
  exact .refl _
  replace h0 := selr_r h0
  replace h0 := selr_l h0
  subst hc
  refine tr tbk 6 (.mk ?_)
  refine sY (yv_ifeq rfl Tryz.underlying135 rfl rfl) ?_
  refine tr tbk 5 (.mk ?_)
  refine jn h0 [3, 4, 7, 10, 11, 12, 13, 14] [1, 2, 3] (fun (a : Bool) (k : Unit) => [(32, boo a)]) (fun a k => []) ⟨fun j15 h1 => ?_, ?_⟩
  refine tc tbk 2 (.mk ?_)
  refine nb tbk h1 fun x16 h1 => ?_
  refine tr tbk 1 (.mk ?_)
  cases x16
  replace h1 := cf h1
  refine tr tbk 1 (.mk ?_)
  refine nb tbk h1 fun x17 h1 => ?_
  refine tr tbk 2 (.mk ?_)
  exact lf h1 () leA
  replace h1 := ct h1
  refine tr tbk 4 (.mk ?_)
  exact lf h1 () leA
  rintro y5_1 _ h0
  cases y5_1
  replace h0 := cf h0
  refine tc tbk 4 (.mk ?_)
  refine sA 4 z50 fun v18 => ?_
  refine tr tbk 3 (.mk ?_)
  refine sA 5 z42 fun v19 => ?_
  refine tr tbk 8 (.mk ?_)
  obtain ⟨j20, h1, h0⟩ := bind_e h0
  refine rse (Out := fun y H' => (∃ (a : Unit) (k : Unit), a = j20 ∧ y = boo false ∧ H' = hk [(1, ⟨42, 4, true, true, v6, [[lst 3 GLayer.av a3.Layers, int a3.Pend.a0, int a3.Pend.a1, int a3.Pend.a2]]⟩), (2, ⟨42, 4, true, true, v7, [[.sc (.slice none 0 0), int 0, int 0, int 0]]⟩), (3, ⟨50, 3, true, true, v8, [[int 0, int 0, int 0]]⟩), (4, ⟨50, 3, true, true, v18, [[int 0, int 0, int 0]]⟩), (5, ⟨42, 4, true, true, v19, [[.sc (.slice none 0 0), int 0, int 0, int 0]]⟩)])) rfl rfl rfl (yl_call rfl rfl (.cons rfl .nil) cal101 ?_) ?_
  refine pcw (c := _) Tryz.func101 rfl rfl ?_; intro Q hret hnorm
  refine tc tbk 7 (.mk ?_)
  refine sY (yv_tassF rfl Tryz.underlying191 rfl rfl rfl zag191) ?_
  refine tr tbk 3 (.mk ?_)
  refine sA 6 z191 fun v21 => ?_
  refine sS ⟨191, 0, true, true, v21, [[]]⟩ sh191 ?_
  refine tr tbk 7 (.mk ?_)
  obtain rfl := nxt_e h1
  refine w_ret (hret _ _ (hk [(1, ⟨42, 4, true, true, v6, [[lst 3 GLayer.av a3.Layers, int a3.Pend.a0, int a3.Pend.a1, int a3.Pend.a2]]⟩), (2, ⟨42, 4, true, true, v7, [[.sc (.slice none 0 0), int 0, int 0, int 0]]⟩), (3, ⟨50, 3, true, true, v8, [[int 0, int 0, int 0]]⟩), (4, ⟨50, 3, true, true, v18, [[int 0, int 0, int 0]]⟩), (5, ⟨42, 4, true, true, v19, [[.sc (.slice none 0 0), int 0, int 0, int 0]]⟩)]) (.tmp rfl .nil) (HK.le ⟨rfl, rfl, rfl, rfl, rfl, trivial⟩) ?_)
  exact ⟨(), (), rfl, rfl, rfl⟩
  rintro y _ ⟨_, _, rfl, hc, rfl⟩
  subst hc
  refine tr tbk 16 (.mk ?_)
  obtain ⟨j22, h1, h0⟩ := bind_e h0
  refine rse (Out := fun y H' => (∃ (a : GPool × GLayer × Int) (k : Unit), a = j22 ∧ y = .tup [.agg [lst 3 GLayer.av a.1.Layers, int a.1.Pend.a0, int a.1.Pend.a1, int a.1.Pend.a2], .agg [int a.2.1.Qty, int a.2.1.Value, int a.2.1.Profit], int a.2.2] ∧ H' = hk [(1, ⟨42, 4, true, true, v6, [[lst 3 GLayer.av a3.Layers, int a3.Pend.a0, int a3.Pend.a1, int a3.Pend.a2]]⟩), (2, ⟨42, 4, true, true, v7, [[.sc (.slice none 0 0), int 0, int 0, int 0]]⟩), (3, ⟨50, 3, true, true, v8, [[int 0, int 0, int 0]]⟩), (4, ⟨50, 3, true, true, v18, [[int 0, int 0, int 0]]⟩), (5, ⟨42, 4, true, true, v19, [[.sc (.slice none 0 0), int 0, int 0, int 0]]⟩)])) rfl rfl rfl (yl_callI rfl rfl mth193_280 (.cons rfl (.cons rfl .nil)) cal280 ?_) ?_
  refine pcw (c := _) Tryz.func280 rfl rfl ?_; intro Q hret hnorm
  refine tc tbk 2 (.mk ?_)
  refine sB 7 fun v23 => ?_
  refine sB 8 fun v24 => ?_
  refine sA 9 z42 fun v25 => ?_
  refine sA 10 z50 fun v26 => ?_
  refine tr tbk 9 (.mk ?_)
  obtain ⟨x27, e27, h1⟩ := bind_e h1
  refine sC cal282 (d_stdcost_Out_c e27) ?_
  refine tr tbk 4 (.mk ?_)
  refine sA 11 z50 fun v28 => ?_
  refine tr tbk 1 (.mk ?_)
  refine sS ⟨50, 3, true, true, v28, [[int x27.2.1.Qty, int x27.2.1.Value, int x27.2.1.Profit]]⟩ sh50 ?_
  refine tr tbk 3 (.mk ?_)
  refine c_drawE [0, 0, 3, 0, 0, 7, 47, 127] (rl [(0, [8]), (3, [11])] []) (rl [(5, [11]), (6, [])] [8, 11]) (rl [(5, false), (6, false)] true) [0, 1, 2, 3, 4, 5, 6, 7] mixed (by kernel_rfl) ?_; intro K hK
  refine eL sh42 ?_
  refine eM ?_
  obtain ⟨x29, e29, h1⟩ := bind_e h1
  refine eP (fun H hH => yv_callP rfl rfl (.cons rfl (.cons rfl .nil)) cal146 (CvL.refl _) (d_pool_with_c e29)) ?_
  refine eL sh50 ?_
  refine eM ?_
  refine de_eff0 rfl rfl rfl rfl (Yield.weak (yl_ob (ob' := (⟨42, 4, true, true, v25, [[lst 3 GLayer.av x29.Layers, int x29.Pend.a0, int x29.Pend.a1, int x29.Pend.a2]]⟩ : AObj)) (yl_store rfl sh42 rfl rfl rfl rfl rfl rfl rfl rfl rfl) rfl) (fun _ h => h) (fun _ _ => trivial)) (by rintro _ _ ⟨rfl, rfl⟩; exact ⟨rfl, trivial⟩) ?_; rintro _ _ ⟨rfl, rfl⟩
  refine de_eff0 rfl rfl rfl rfl (Yield.weak (yl_ob (ob' := (⟨50, 3, true, true, v26, [[int x27.2.1.Qty, int x27.2.1.Value, int x27.2.1.Profit]]⟩ : AObj)) (yl_store rfl sh50 rfl rfl rfl rfl rfl rfl rfl rfl rfl) rfl) (fun _ h => h) (fun _ _ => trivial)) (by rintro _ _ ⟨rfl, rfl⟩; exact trivial) ?_; rintro _ _ ⟨rfl, rfl⟩
  refine eA ?_
  refine de_nil (hK _ ?_)
  obtain rfl := nxt_e h1
  refine w_ret (hret _ _ (hk [(1, ⟨42, 4, true, true, v6, [[lst 3 GLayer.av a3.Layers, int a3.Pend.a0, int a3.Pend.a1, int a3.Pend.a2]]⟩), (2, ⟨42, 4, true, true, v7, [[.sc (.slice none 0 0), int 0, int 0, int 0]]⟩), (3, ⟨50, 3, true, true, v8, [[int 0, int 0, int 0]]⟩), (4, ⟨50, 3, true, true, v18, [[int 0, int 0, int 0]]⟩), (5, ⟨42, 4, true, true, v19, [[.sc (.slice none 0 0), int 0, int 0, int 0]]⟩)]) (.cell rfl (.pt rfl rfl rfl) sh42 rfl (.cell rfl (.pt rfl rfl rfl) sh50 rfl (.tmp rfl .nil))) (HK.le ⟨rfl, rfl, rfl, rfl, rfl, trivial⟩) ?_)
  exact ⟨(x29, x27.2.1, x27.2.2), (), rfl, rfl, rfl⟩
  rintro y _ ⟨⟨y7_1, y7_2, y7_3⟩, _, rfl, hc, rfl⟩
  replace h0 := p2_e h0
  replace h0 := p2_e h0
  subst hc
  refine tr tbk 4 (.mk ?_)
  refine sS ⟨42, 4, true, true, v19, [[lst 3 GLayer.av y7_1.Layers, int y7_1.Pend.a0, int y7_1.Pend.a1, int y7_1.Pend.a2]]⟩ sh42 ?_
  refine sS ⟨50, 3, true, true, v18, [[int y7_2.Qty, int y7_2.Value, int y7_2.Profit]]⟩ sh50 ?_
  refine tr tbk 6 (.mk ?_)
  refine nb tbk h0 fun x30 h0 => ?_
  refine tr tbk 1 (.mk ?_)
  cases x30
  replace h0 := cf h0
  refine tc tbk 3 (.mk ?_)
  refine c_drawE [0, 0, 0, 1, 11, 31, 63] (rl [(0, [5]), (1, [4])] []) (rl [(3, [4]), (4, [])] [4, 5]) (rl [(3, false), (4, false)] true) [0, 1, 2, 3, 4, 5, 6] mixed (by kernel_rfl) ?_; intro K hK
  refine eL sh42 ?_
  refine eL sh50 ?_
  refine eM ?_
  refine de_eff0 rfl rfl rfl rfl (Yield.weak (yl_ob (ob' := (⟨42, 4, true, true, v7, [[lst 3 GLayer.av y7_1.Layers, int y7_1.Pend.a0, int y7_1.Pend.a1, int y7_1.Pend.a2]]⟩ : AObj)) (yl_store rfl sh42 rfl rfl rfl rfl rfl rfl rfl rfl rfl) rfl) (fun _ h => h) (fun _ _ => trivial)) (by rintro _ _ ⟨rfl, rfl⟩; exact ⟨rfl, trivial⟩) ?_; rintro _ _ ⟨rfl, rfl⟩
  refine de_eff0 rfl rfl rfl rfl (Yield.weak (yl_ob (ob' := (⟨50, 3, true, true, v8, [[int y7_2.Qty, int y7_2.Value, int y7_2.Profit]]⟩ : AObj)) (yl_store rfl sh50 rfl rfl rfl rfl rfl rfl rfl rfl rfl) rfl) (fun _ h => h) (fun _ _ => trivial)) (by rintro _ _ ⟨rfl, rfl⟩; exact trivial) ?_; rintro _ _ ⟨rfl, rfl⟩
  iterate 2 refine eA ?_
  refine de_nil (hK _ ?_)
  obtain rfl := nxt_e h0
  refine wR hret (rC sh42 (rC sh50 (rT (rT .nil)))) ?_
  exact .refl _
  replace h0 := ct h0
  refine tc tbk 4 (.mk ?_)
  obtain ⟨x31, e31, h0⟩ := bind_e h0
  refine sC cal96 (d_pool_own_c e31) ?_
  refine tr tbk 2 (.mk ?_)
  refine sS ⟨42, 4, true, true, v7, [[lst 3 GLayer.av x31.Layers, int x31.Pend.a0, int x31.Pend.a1, int x31.Pend.a2]]⟩ sh42 ?_
  refine sS ⟨50, 3, true, true, v8, [[int 0, int 0, int 0]]⟩ sh50 ?_
  refine tr tbk 3 (.mk ?_)
  obtain rfl := nxt_e h0
  refine wR hret (rC sh42 (rC sh50 (rT (rT .nil)))) ?_
  exact .refl _
  replace h0 := ct h0
  refine tc tbk 4 (.mk ?_)
  obtain ⟨x32, e32, h0⟩ := bind_e h0
  refine sC cal96 (d_pool_own_c e32) ?_
  refine tr tbk 1 (.mk ?_)
  refine sS ⟨42, 4, true, true, v7, [[lst 3 GLayer.av x32.Layers, int x32.Pend.a0, int x32.Pend.a1, int x32.Pend.a2]]⟩ sh42 ?_
  refine sS ⟨50, 3, true, true, v8, [[int 0, int 0, int 0]]⟩ sh50 ?_
  refine tr tbk 3 (.mk ?_)
  obtain rfl := nxt_e h0
  refine wR hret (rC sh42 (rC sh50 (rT (rT .nil)))) ?_
  exact .refl _
  replace h0 := selr_r h0
  replace h0 := selr_r h0
  replace h0 := selr_l h0
  subst hc
  refine tr tbk 6 (.mk ?_)
  refine sY (yv_ifeq rfl Tryz.underlying135 rfl rfl) ?_
  refine tr tbk 5 (.mk ?_)
  refine jn h0 [3, 4, 7, 10, 11, 12, 13, 14] [1, 2, 3] (fun (a : Bool) (k : Unit) => [(32, boo a)]) (fun a k => []) ⟨fun j33 h1 => ?_, ?_⟩
  refine tc tbk 2 (.mk ?_)
  refine nb tbk h1 fun x34 h1 => ?_
  refine tr tbk 1 (.mk ?_)
  cases x34
  replace h1 := cf h1
  refine tr tbk 1 (.mk ?_)
  refine nb tbk h1 fun x35 h1 => ?_
  refine tr tbk 2 (.mk ?_)
  exact lf h1 () leA
  replace h1 := ct h1
  refine tr tbk 4 (.mk ?_)
  exact lf h1 () leA
  rintro y5_1 _ h0
  cases y5_1
  replace h0 := cf h0
  refine tc tbk 4 (.mk ?_)
  refine sA 4 z50 fun v36 => ?_
  refine tr tbk 3 (.mk ?_)
  refine sA 5 z42 fun v37 => ?_
  refine tr tbk 8 (.mk ?_)
  obtain ⟨j38, h1, h0⟩ := bind_e h0
  refine rse (Out := fun y H' => (∃ (a : Unit) (k : Unit), a = j38 ∧ y = boo true ∧ H' = hk [(1, ⟨42, 4, true, true, v6, [[lst 3 GLayer.av a3.Layers, int a3.Pend.a0, int a3.Pend.a1, int a3.Pend.a2]]⟩), (2, ⟨42, 4, true, true, v7, [[.sc (.slice none 0 0), int 0, int 0, int 0]]⟩), (3, ⟨50, 3, true, true, v8, [[int 0, int 0, int 0]]⟩), (4, ⟨50, 3, true, true, v36, [[int 0, int 0, int 0]]⟩), (5, ⟨42, 4, true, true, v37, [[.sc (.slice none 0 0), int 0, int 0, int 0]]⟩)])) rfl rfl rfl (yl_call rfl rfl (.cons rfl .nil) cal101 ?_) ?_
  refine pcw (c := _) Tryz.func101 rfl rfl ?_; intro Q hret hnorm
  refine tc tbk 7 (.mk ?_)
  refine sY (yv_tassT rfl Tryz.underlying191 rfl rfl) ?_
  refine tr tbk 3 (.mk ?_)
  refine sA 6 z191 fun v39 => ?_
  refine sS ⟨191, 0, true, true, v39, [[]]⟩ sh191 ?_
  refine tr tbk 7 (.mk ?_)
  obtain rfl := nxt_e h1
  refine w_ret (hret _ _ (hk [(1, ⟨42, 4, true, true, v6, [[lst 3 GLayer.av a3.Layers, int a3.Pend.a0, int a3.Pend.a1, int a3.Pend.a2]]⟩), (2, ⟨42, 4, true, true, v7, [[.sc (.slice none 0 0), int 0, int 0, int 0]]⟩), (3, ⟨50, 3, true, true, v8, [[int 0, int 0, int 0]]⟩), (4, ⟨50, 3, true, true, v36, [[int 0, int 0, int 0]]⟩), (5, ⟨42, 4, true, true, v37, [[.sc (.slice none 0 0), int 0, int 0, int 0]]⟩)]) (.tmp rfl .nil) (HK.le ⟨rfl, rfl, rfl, rfl, rfl, trivial⟩) ?_)
  exact ⟨(), (), rfl, rfl, rfl⟩
  rintro y _ ⟨_, _, rfl, hc, rfl⟩
  subst hc
  refine tr tbk 2 (.mk ?_)
  refine nb tbk h0 fun x40 h0 => ?_
  refine tr tbk 8 (.mk ?_)
  refine jn h0 [7, 10, 11, 12, 13, 15, 16] [1, 2, 3] (fun (a : Int × Bool × GLayer × GPool) (k : Unit) => [(17, int a.1), (18, boo a.2.1)]) (fun a k => [(4, ⟨50, 3, true, true, v36, [[int a.2.2.1.Qty, int a.2.2.1.Value, int a.2.2.1.Profit]]⟩), (5, ⟨42, 4, true, true, v37, [[lst 3 GLayer.av a.2.2.2.Layers, int a.2.2.2.Pend.a0, int a.2.2.2.Pend.a1, int a.2.2.2.Pend.a2]]⟩)]) ⟨fun j41 h1 => ?_, ?_⟩
  cases x40
  replace h1 := cf h1
  refine tc tbk 5 (.mk ?_)
  obtain ⟨j42, h2, h1⟩ := bind_e h1
  refine rse (Out := fun y H' => (∃ (a : GPool × GLayer × Int) (k : Unit), a = j42 ∧ y = .tup [.agg [lst 3 GLayer.av a.1.Layers, int a.1.Pend.a0, int a.1.Pend.a1, int a.1.Pend.a2], .agg [int a.2.1.Qty, int a.2.1.Value, int a.2.1.Profit], int a.2.2] ∧ H' = hk [(1, ⟨42, 4, true, true, v6, [[lst 3 GLayer.av a3.Layers, int a3.Pend.a0, int a3.Pend.a1, int a3.Pend.a2]]⟩), (2, ⟨42, 4, true, true, v7, [[.sc (.slice none 0 0), int 0, int 0, int 0]]⟩), (3, ⟨50, 3, true, true, v8, [[int 0, int 0, int 0]]⟩), (4, ⟨50, 3, true, true, v36, [[int 0, int 0, int 0]]⟩), (5, ⟨42, 4, true, true, v37, [[.sc (.slice none 0 0), int 0, int 0, int 0]]⟩)])) rfl rfl rfl (yl_callI rfl rfl mth191_276 (.cons rfl (.cons rfl .nil)) cal276 ?_) ?_
  refine pcw (c := _) Tryz.func276 rfl rfl ?_; intro Q hret hnorm
  refine tc tbk 2 (.mk ?_)
  refine sB 16 fun v43 => ?_
  refine sB 17 fun v44 => ?_
  refine sA 18 z42 fun v45 => ?_
  refine sA 19 z50 fun v46 => ?_
  refine tr tbk 6 (.mk ?_)
  obtain ⟨x47, e47, h2⟩ := bind_e h2
  refine sC cal278 (d_pavg_Out_c e47) ?_
  refine tr tbk 3 (.mk ?_)
  refine sS ⟨42, 4, true, true, v45, [[lst 3 GLayer.av x47.1.Layers, int x47.1.Pend.a0, int x47.1.Pend.a1, int x47.1.Pend.a2]]⟩ sh42 ?_
  refine sS ⟨50, 3, true, true, v46, [[int x47.2.1.Qty, int x47.2.1.Value, int x47.2.1.Profit]]⟩ sh50 ?_
  refine tr tbk 2 (.mk ?_)
  obtain rfl := nxt_e h2
  refine w_ret (hret _ _ (hk [(1, ⟨42, 4, true, true, v6, [[lst 3 GLayer.av a3.Layers, int a3.Pend.a0, int a3.Pend.a1, int a3.Pend.a2]]⟩), (2, ⟨42, 4, true, true, v7, [[.sc (.slice none 0 0), int 0, int 0, int 0]]⟩), (3, ⟨50, 3, true, true, v8, [[int 0, int 0, int 0]]⟩), (4, ⟨50, 3, true, true, v36, [[int 0, int 0, int 0]]⟩), (5, ⟨42, 4, true, true, v37, [[.sc (.slice none 0 0), int 0, int 0, int 0]]⟩)]) (.cell rfl (.pt rfl rfl rfl) sh42 rfl (.cell rfl (.pt rfl rfl rfl) sh50 rfl (.tmp rfl .nil))) (HK.le ⟨rfl, rfl, rfl, rfl, rfl, trivial⟩) ?_)
  exact ⟨(x47.1, x47.2.1, x47.2.2), (), rfl, rfl, rfl⟩
  rintro y _ ⟨⟨y10_1, y10_2, y10_3⟩, _, rfl, hc, rfl⟩
  replace h1 := p2_e h1
  replace h1 := p2_e h1
  subst hc
  refine tr tbk 4 (.mk ?_)
  refine sS ⟨42, 4, true, true, v37, [[lst 3 GLayer.av y10_1.Layers, int y10_1.Pend.a0, int y10_1.Pend.a1, int y10_1.Pend.a2]]⟩ sh42 ?_
  refine sS ⟨50, 3, true, true, v36, [[int y10_2.Qty, int y10_2.Value, int y10_2.Profit]]⟩ sh50 ?_
  refine tr tbk 2 (.mk ?_)
  exact lf h1 () leA
  replace h1 := ct h1
  refine tc tbk 5 (.mk ?_)
  obtain ⟨x48, e48, h1⟩ := bind_e h1
  refine sC cal102 (d_pavg_Wait_c e48) ?_
  refine tr tbk 3 (.mk ?_)
  refine sS ⟨42, 4, true, true, v37, [[lst 3 GLayer.av x48.1.Layers, int x48.1.Pend.a0, int x48.1.Pend.a1, int x48.1.Pend.a2]]⟩ sh42 ?_
  refine tr tbk 2 (.mk ?_)
  exact lf h1 () leA
  rintro ⟨y9_1, y9_2, y9_3, y9_4⟩ _ h0
  replace h0 := p2_e h0
  replace h0 := p2_e h0
  replace h0 := p2_e h0
  refine tc tbk 4 (.mk ?_)
  refine nb tbk h0 fun x49 h0 => ?_
  refine tr tbk 1 (.mk ?_)
  cases x49
  replace h0 := cf h0
  refine tc tbk 3 (.mk ?_)
  refine c_drawE [0, 0, 0, 1, 11, 31, 63] (rl [(0, [5]), (1, [4])] []) (rl [(3, [4]), (4, [])] [4, 5]) (rl [(3, false), (4, false)] true) [0, 1, 2, 3, 4, 5, 6] mixed (by kernel_rfl) ?_; intro K hK
  refine eL sh42 ?_
  refine eL sh50 ?_
  refine eM ?_
  refine de_eff0 rfl rfl rfl rfl (Yield.weak (yl_ob (ob' := (⟨42, 4, true, true, v7, [[lst 3 GLayer.av y9_4.Layers, int y9_4.Pend.a0, int y9_4.Pend.a1, int y9_4.Pend.a2]]⟩ : AObj)) (yl_store rfl sh42 rfl rfl rfl rfl rfl rfl rfl rfl rfl) rfl) (fun _ h => h) (fun _ _ => trivial)) (by rintro _ _ ⟨rfl, rfl⟩; exact ⟨rfl, trivial⟩) ?_; rintro _ _ ⟨rfl, rfl⟩
  refine de_eff0 rfl rfl rfl rfl (Yield.weak (yl_ob (ob' := (⟨50, 3, true, true, v8, [[int y9_3.Qty, int y9_3.Value, int y9_3.Profit]]⟩ : AObj)) (yl_store rfl sh50 rfl rfl rfl rfl rfl rfl rfl rfl rfl) rfl) (fun _ h => h) (fun _ _ => trivial)) (by rintro _ _ ⟨rfl, rfl⟩; exact trivial) ?_; rintro _ _ ⟨rfl, rfl⟩
  iterate 2 refine eA ?_
  refine de_nil (hK _ ?_)
  obtain rfl := nxt_e h0
  refine wR hret (rC sh42 (rC sh50 (rT (rT .nil)))) ?_
  exact .refl _
  replace h0 := ct h0
  refine tc tbk 4 (.mk ?_)
  obtain ⟨x50, e50, h0⟩ := bind_e h0
  refine sC cal96 (d_pool_own_c e50) ?_
  refine tr tbk 2 (.mk ?_)
  refine sS ⟨42, 4, true, true, v7, [[lst 3 GLayer.av x50.Layers, int x50.Pend.a0, int x50.Pend.a1, int x50.Pend.a2]]⟩ sh42 ?_
  refine sS ⟨50, 3, true, true, v8, [[int 0, int 0, int 0]]⟩ sh50 ?_
  refine tr tbk 3 (.mk ?_)
  obtain rfl := nxt_e h0
  refine wR hret (rC sh42 (rC sh50 (rT (rT .nil)))) ?_
  exact .refl _
  replace h0 := ct h0
  refine tc tbk 4 (.mk ?_)
  obtain ⟨x51, e51, h0⟩ := bind_e h0
  refine sC cal96 (d_pool_own_c e51) ?_
  refine tr tbk 1 (.mk ?_)
  refine sS ⟨42, 4, true, true, v7, [[lst 3 GLayer.av x51.Layers, int x51.Pend.a0, int x51.Pend.a1, int x51.Pend.a2]]⟩ sh42 ?_
  refine sS ⟨50, 3, true, true, v8, [[int 0, int 0, int 0]]⟩ sh50 ?_
  refine tr tbk 3 (.mk ?_)
  obtain rfl := nxt_e h0
  refine wR hret (rC sh42 (rC sh50 (rT (rT .nil)))) ?_
  exact .refl _
  replace h0 := selr_r h0
  replace h0 := selr_r h0
  replace h0 := selr_r h0
  replace h0 := selr_l h0
  subst hc
  refine tr tbk 6 (.mk ?_)
  refine sY (yv_ifeq rfl Tryz.underlying135 rfl rfl) ?_
  refine tr tbk 5 (.mk ?_)
  refine jn h0 [3, 4, 7, 10, 11, 12, 13, 14] [1, 2, 3] (fun (a : Bool) (k : Unit) => [(32, boo a)]) (fun a k => []) ⟨fun j52 h1 => ?_, ?_⟩
  refine tc tbk 2 (.mk ?_)
  refine nb tbk h1 fun x53 h1 => ?_
  refine tr tbk 1 (.mk ?_)
  cases x53
  replace h1 := cf h1
  refine tr tbk 1 (.mk ?_)
  refine nb tbk h1 fun x54 h1 => ?_
  refine tr tbk 2 (.mk ?_)
  exact lf h1 () leA
  replace h1 := ct h1
  refine tr tbk 4 (.mk ?_)
  exact lf h1 () leA
  rintro y5_1 _ h0
  cases y5_1
  replace h0 := cf h0
  refine tc tbk 4 (.mk ?_)
  refine sA 4 z50 fun v55 => ?_
  refine tr tbk 3 (.mk ?_)
  refine sA 5 z42 fun v56 => ?_
  refine tr tbk 8 (.mk ?_)
  obtain ⟨j57, h1, h0⟩ := bind_e h0
  refine rse (Out := fun y H' => (∃ (a : Unit) (k : Unit), a = j57 ∧ y = boo false ∧ H' = hk [(1, ⟨42, 4, true, true, v6, [[lst 3 GLayer.av a3.Layers, int a3.Pend.a0, int a3.Pend.a1, int a3.Pend.a2]]⟩), (2, ⟨42, 4, true, true, v7, [[.sc (.slice none 0 0), int 0, int 0, int 0]]⟩), (3, ⟨50, 3, true, true, v8, [[int 0, int 0, int 0]]⟩), (4, ⟨50, 3, true, true, v55, [[int 0, int 0, int 0]]⟩), (5, ⟨42, 4, true, true, v56, [[.sc (.slice none 0 0), int 0, int 0, int 0]]⟩)])) rfl rfl rfl (yl_call rfl rfl (.cons rfl .nil) cal101 ?_) ?_
  refine pcw (c := _) Tryz.func101 rfl rfl ?_; intro Q hret hnorm
  refine tc tbk 7 (.mk ?_)
  refine sY (yv_tassF rfl Tryz.underlying191 rfl rfl rfl zag191) ?_
  refine tr tbk 3 (.mk ?_)
  refine sA 6 z191 fun v58 => ?_
  refine sS ⟨191, 0, true, true, v58, [[]]⟩ sh191 ?_
  refine tr tbk 7 (.mk ?_)
  obtain rfl := nxt_e h1
  refine w_ret (hret _ _ (hk [(1, ⟨42, 4, true, true, v6, [[lst 3 GLayer.av a3.Layers, int a3.Pend.a0, int a3.Pend.a1, int a3.Pend.a2]]⟩), (2, ⟨42, 4, true, true, v7, [[.sc (.slice none 0 0), int 0, int 0, int 0]]⟩), (3, ⟨50, 3, true, true, v8, [[int 0, int 0, int 0]]⟩), (4, ⟨50, 3, true, true, v55, [[int 0, int 0, int 0]]⟩), (5, ⟨42, 4, true, true, v56, [[.sc (.slice none 0 0), int 0, int 0, int 0]]⟩)]) (.tmp rfl .nil) (HK.le ⟨rfl, rfl, rfl, rfl, rfl, trivial⟩) ?_)
  exact ⟨(), (), rfl, rfl, rfl⟩
  rintro y _ ⟨_, _, rfl, hc, rfl⟩
  subst hc
  refine tr tbk 16 (.mk ?_)
  obtain ⟨j59, h1, h0⟩ := bind_e h0
  refine rse (Out := fun y H' => (∃ (a : GPool × GLayer × Int) (k : Unit), a = j59 ∧ y = .tup [.agg [lst 3 GLayer.av a.1.Layers, int a.1.Pend.a0, int a.1.Pend.a1, int a.1.Pend.a2], .agg [int a.2.1.Qty, int a.2.1.Value, int a.2.1.Profit], int a.2.2] ∧ H' = hk [(1, ⟨42, 4, true, true, v6, [[lst 3 GLayer.av a3.Layers, int a3.Pend.a0, int a3.Pend.a1, int a3.Pend.a2]]⟩), (2, ⟨42, 4, true, true, v7, [[.sc (.slice none 0 0), int 0, int 0, int 0]]⟩), (3, ⟨50, 3, true, true, v8, [[int 0, int 0, int 0]]⟩), (4, ⟨50, 3, true, true, v55, [[int 0, int 0, int 0]]⟩), (5, ⟨42, 4, true, true, v56, [[.sc (.slice none 0 0), int 0, int 0, int 0]]⟩)])) rfl rfl rfl (yl_callI rfl rfl mth190_271 (.cons rfl (.cons rfl .nil)) cal271 ?_) ?_
  refine pcw (c := _) Tryz.func271 rfl rfl ?_; intro Q hret hnorm
  refine tc tbk 2 (.mk ?_)
  refine sB 20 fun v60 => ?_
  refine sB 21 fun v61 => ?_
  refine sA 22 z42 fun v62 => ?_
  refine sA 23 z50 fun v63 => ?_
  refine tr tbk 7 (.mk ?_)
  obtain ⟨x64, e64, h1⟩ := bind_e h1
  refine sC cal273 (d_mavg_Out_c e64) ?_
  refine tr tbk 4 (.mk ?_)
  refine sA 24 z50 fun v65 => ?_
  refine tr tbk 1 (.mk ?_)
  refine sS ⟨50, 3, true, true, v65, [[int x64.2.1.Qty, int x64.2.1.Value, int x64.2.1.Profit]]⟩ sh50 ?_
  refine tr tbk 3 (.mk ?_)
  refine c_drawE [0, 0, 3, 0, 0, 7, 47, 127] (rl [(0, [21]), (3, [24])] []) (rl [(5, [24]), (6, [])] [21, 24]) (rl [(5, false), (6, false)] true) [0, 1, 2, 3, 4, 5, 6, 7] mixed (by kernel_rfl) ?_; intro K hK
  refine eL sh42 ?_
  refine eM ?_
  obtain ⟨x66, e66, h1⟩ := bind_e h1
  refine eP (fun H hH => yv_callP rfl rfl (.cons rfl (.cons rfl .nil)) cal146 (CvL.refl _) (d_pool_with_c e66)) ?_
  refine eL sh50 ?_
  refine eM ?_
  refine de_eff0 rfl rfl rfl rfl (Yield.weak (yl_ob (ob' := (⟨42, 4, true, true, v62, [[lst 3 GLayer.av x66.Layers, int x66.Pend.a0, int x66.Pend.a1, int x66.Pend.a2]]⟩ : AObj)) (yl_store rfl sh42 rfl rfl rfl rfl rfl rfl rfl rfl rfl) rfl) (fun _ h => h) (fun _ _ => trivial)) (by rintro _ _ ⟨rfl, rfl⟩; exact ⟨rfl, trivial⟩) ?_; rintro _ _ ⟨rfl, rfl⟩
  refine de_eff0 rfl rfl rfl rfl (Yield.weak (yl_ob (ob' := (⟨50, 3, true, true, v63, [[int x64.2.1.Qty, int x64.2.1.Value, int x64.2.1.Profit]]⟩ : AObj)) (yl_store rfl sh50 rfl rfl rfl rfl rfl rfl rfl rfl rfl) rfl) (fun _ h => h) (fun _ _ => trivial)) (by rintro _ _ ⟨rfl, rfl⟩; exact trivial) ?_; rintro _ _ ⟨rfl, rfl⟩
  refine eA ?_
  refine de_nil (hK _ ?_)
  obtain rfl := nxt_e h1
  refine w_ret (hret _ _ (hk [(1, ⟨42, 4, true, true, v6, [[lst 3 GLayer.av a3.Layers, int a3.Pend.a0, int a3.Pend.a1, int a3.Pend.a2]]⟩), (2, ⟨42, 4, true, true, v7, [[.sc (.slice none 0 0), int 0, int 0, int 0]]⟩), (3, ⟨50, 3, true, true, v8, [[int 0, int 0, int 0]]⟩), (4, ⟨50, 3, true, true, v55, [[int 0, int 0, int 0]]⟩), (5, ⟨42, 4, true, true, v56, [[.sc (.slice none 0 0), int 0, int 0, int 0]]⟩)]) (.cell rfl (.pt rfl rfl rfl) sh42 rfl (.cell rfl (.pt rfl rfl rfl) sh50 rfl (.tmp rfl .nil))) (HK.le ⟨rfl, rfl, rfl, rfl, rfl, trivial⟩) ?_)
  exact ⟨(x66, x64.2.1, x64.2.2), (), rfl, rfl, rfl⟩
  rintro y _ ⟨⟨y11_1, y11_2, y11_3⟩, _, rfl, hc, rfl⟩
  replace h0 := p2_e h0
  replace h0 := p2_e h0
  subst hc
  refine tr tbk 4 (.mk ?_)
  refine sS ⟨42, 4, true, true, v56, [[lst 3 GLayer.av y11_1.Layers, int y11_1.Pend.a0, int y11_1.Pend.a1, int y11_1.Pend.a2]]⟩ sh42 ?_
  refine sS ⟨50, 3, true, true, v55, [[int y11_2.Qty, int y11_2.Value, int y11_2.Profit]]⟩ sh50 ?_
  refine tr tbk 6 (.mk ?_)
  refine nb tbk h0 fun x67 h0 => ?_
  refine tr tbk 1 (.mk ?_)
  cases x67
  replace h0 := cf h0
  refine tc tbk 3 (.mk ?_)
  refine c_drawE [0, 0, 0, 1, 11, 31, 63] (rl [(0, [5]), (1, [4])] []) (rl [(3, [4]), (4, [])] [4, 5]) (rl [(3, false), (4, false)] true) [0, 1, 2, 3, 4, 5, 6] mixed (by kernel_rfl) ?_; intro K hK
  refine eL sh42 ?_
  refine eL sh50 ?_
  refine eM ?_
  refine de_eff0 rfl rfl rfl rfl (Yield.weak (yl_ob (ob' := (⟨42, 4, true, true, v7, [[lst 3 GLayer.av y11_1.Layers, int y11_1.Pend.a0, int y11_1.Pend.a1, int y11_1.Pend.a2]]⟩ : AObj)) (yl_store rfl sh42 rfl rfl rfl rfl rfl rfl rfl rfl rfl) rfl) (fun _ h => h) (fun _ _ => trivial)) (by rintro _ _ ⟨rfl, rfl⟩; exact ⟨rfl, trivial⟩) ?_; rintro _ _ ⟨rfl, rfl⟩
  refine de_eff0 rfl rfl rfl rfl (Yield.weak (yl_ob (ob' := (⟨50, 3, true, true, v8, [[int y11_2.Qty, int y11_2.Value, int y11_2.Profit]]⟩ : AObj)) (yl_store rfl sh50 rfl rfl rfl rfl rfl rfl rfl rfl rfl) rfl) (fun _ h => h) (fun _ _ => trivial)) (by rintro _ _ ⟨rfl, rfl⟩; exact trivial) ?_; rintro _ _ ⟨rfl, rfl⟩
  iterate 2 refine eA ?_
  refine de_nil (hK _ ?_)
  obtain rfl := nxt_e h0
  refine wR hret (rC sh42 (rC sh50 (rT (rT .nil)))) ?_
  exact .refl _
  replace h0 := ct h0
  refine tc tbk 4 (.mk ?_)
  obtain ⟨x68, e68, h0⟩ := bind_e h0
  refine sC cal96 (d_pool_own_c e68) ?_
  refine tr tbk 2 (.mk ?_)
  refine sS ⟨42, 4, true, true, v7, [[lst 3 GLayer.av x68.Layers, int x68.Pend.a0, int x68.Pend.a1, int x68.Pend.a2]]⟩ sh42 ?_
  refine sS ⟨50, 3, true, true, v8, [[int 0, int 0, int 0]]⟩ sh50 ?_
  refine tr tbk 3 (.mk ?_)
  obtain rfl := nxt_e h0
  refine wR hret (rC sh42 (rC sh50 (rT (rT .nil)))) ?_
  exact .refl _
  replace h0 := ct h0
  refine tc tbk 4 (.mk ?_)
  obtain ⟨x69, e69, h0⟩ := bind_e h0
  refine sC cal96 (d_pool_own_c e69) ?_
  refine tr tbk 1 (.mk ?_)
  refine sS ⟨42, 4, true, true, v7, [[lst 3 GLayer.av x69.Layers, int x69.Pend.a0, int x69.Pend.a1, int x69.Pend.a2]]⟩ sh42 ?_
  refine sS ⟨50, 3, true, true, v8, [[int 0, int 0, int 0]]⟩ sh50 ?_
  refine tr tbk 3 (.mk ?_)
  obtain rfl := nxt_e h0
  refine wR hret (rC sh42 (rC sh50 (rT (rT .nil)))) ?_
  exact .refl _
  replace h0 := selr_r h0
  replace h0 := selr_r h0
  replace h0 := selr_r h0
  replace h0 := selr_r h0
  subst hc
  refine tr tbk 6 (.mk ?_)
  refine sY (yv_ifeq rfl Tryz.underlying135 rfl rfl) ?_
  refine tr tbk 5 (.mk ?_)
  refine jn h0 [3, 4, 7, 10, 11, 12, 13, 14] [1, 2, 3] (fun (a : Bool) (k : Unit) => [(32, boo a)]) (fun a k => []) ⟨fun j70 h1 => ?_, ?_⟩
  refine tc tbk 2 (.mk ?_)
  refine nb tbk h1 fun x71 h1 => ?_
  refine tr tbk 1 (.mk ?_)
  cases x71
  replace h1 := cf h1
  refine tr tbk 1 (.mk ?_)
  refine nb tbk h1 fun x72 h1 => ?_
  refine tr tbk 2 (.mk ?_)
  exact lf h1 () leA
  replace h1 := ct h1
  refine tr tbk 4 (.mk ?_)
  exact lf h1 () leA
  rintro y5_1 _ h0
  cases y5_1
  replace h0 := cf h0
  refine tc tbk 4 (.mk ?_)
  refine sA 4 z50 fun v73 => ?_
  refine tr tbk 3 (.mk ?_)
  refine sA 5 z42 fun v74 => ?_
  refine tr tbk 8 (.mk ?_)
  obtain ⟨j75, h1, h0⟩ := bind_e h0
  refine rse (Out := fun y H' => (∃ (a : Unit) (k : Unit), a = j75 ∧ y = boo false ∧ H' = hk [(1, ⟨42, 4, true, true, v6, [[lst 3 GLayer.av a3.Layers, int a3.Pend.a0, int a3.Pend.a1, int a3.Pend.a2]]⟩), (2, ⟨42, 4, true, true, v7, [[.sc (.slice none 0 0), int 0, int 0, int 0]]⟩), (3, ⟨50, 3, true, true, v8, [[int 0, int 0, int 0]]⟩), (4, ⟨50, 3, true, true, v73, [[int 0, int 0, int 0]]⟩), (5, ⟨42, 4, true, true, v74, [[.sc (.slice none 0 0), int 0, int 0, int 0]]⟩)])) rfl rfl rfl (yl_call rfl rfl (.cons rfl .nil) cal101 ?_) ?_
  refine pcw (c := _) Tryz.func101 rfl rfl ?_; intro Q hret hnorm
  refine tc tbk 7 (.mk ?_)
  refine sY (yv_tassF rfl Tryz.underlying191 rfl rfl rfl zag191) ?_
  refine tr tbk 3 (.mk ?_)
  refine sA 6 z191 fun v76 => ?_
  refine sS ⟨191, 0, true, true, v76, [[]]⟩ sh191 ?_
  refine tr tbk 7 (.mk ?_)
  obtain rfl := nxt_e h1
  refine w_ret (hret _ _ (hk [(1, ⟨42, 4, true, true, v6, [[lst 3 GLayer.av a3.Layers, int a3.Pend.a0, int a3.Pend.a1, int a3.Pend.a2]]⟩), (2, ⟨42, 4, true, true, v7, [[.sc (.slice none 0 0), int 0, int 0, int 0]]⟩), (3, ⟨50, 3, true, true, v8, [[int 0, int 0, int 0]]⟩), (4, ⟨50, 3, true, true, v73, [[int 0, int 0, int 0]]⟩), (5, ⟨42, 4, true, true, v74, [[.sc (.slice none 0 0), int 0, int 0, int 0]]⟩)]) (.tmp rfl .nil) (HK.le ⟨rfl, rfl, rfl, rfl, rfl, trivial⟩) ?_)
  exact ⟨(), (), rfl, rfl, rfl⟩
  rintro y _ ⟨_, _, rfl, hc, rfl⟩
  subst hc
  refine tr tbk 16 (.mk ?_)
  obtain ⟨j77, h1, h0⟩ := bind_e h0
  refine rse (Out := fun y H' => (∃ (a : GPool × GLayer × Int) (k : Unit), a = j77 ∧ y = .tup [.agg [lst 3 GLayer.av a.1.Layers, int a.1.Pend.a0, int a.1.Pend.a1, int a.1.Pend.a2], .agg [int a.2.1.Qty, int a.2.1.Value, int a.2.1.Profit], int a.2.2] ∧ H' = hk [(1, ⟨42, 4, true, true, v6, [[lst 3 GLayer.av a3.Layers, int a3.Pend.a0, int a3.Pend.a1, int a3.Pend.a2]]⟩), (2, ⟨42, 4, true, true, v7, [[.sc (.slice none 0 0), int 0, int 0, int 0]]⟩), (3, ⟨50, 3, true, true, v8, [[int 0, int 0, int 0]]⟩), (4, ⟨50, 3, true, true, v73, [[int 0, int 0, int 0]]⟩), (5, ⟨42, 4, true, true, v74, [[.sc (.slice none 0 0), int 0, int 0, int 0]]⟩)])) rfl rfl rfl (yl_callI rfl rfl mth189_266 (.cons rfl (.cons rfl .nil)) cal266 ?_) ?_
  refine pcw (c := _) Tryz.func266 rfl rfl ?_; intro Q hret hnorm
  refine tc tbk 2 (.mk ?_)
  refine sB 25 fun v78 => ?_
  refine sB 26 fun v79 => ?_
  refine sA 27 z42 fun v80 => ?_
  refine sA 28 z50 fun v81 => ?_
  refine tr tbk 7 (.mk ?_)
  obtain ⟨x82, e82, h1⟩ := bind_e h1
  refine sC cal268 (d_fifo_Out_c e82) ?_
  refine tr tbk 4 (.mk ?_)
  refine sA 29 z50 fun v83 => ?_
  refine tr tbk 1 (.mk ?_)
  refine sS ⟨50, 3, true, true, v83, [[int x82.2.1.Qty, int x82.2.1.Value, int x82.2.1.Profit]]⟩ sh50 ?_
  refine tr tbk 3 (.mk ?_)
  refine c_drawE [0, 0, 3, 0, 0, 7, 47, 127] (rl [(0, [26]), (3, [29])] []) (rl [(5, [29]), (6, [])] [26, 29]) (rl [(5, false), (6, false)] true) [0, 1, 2, 3, 4, 5, 6, 7] mixed (by kernel_rfl) ?_; intro K hK
  refine eL sh42 ?_
  refine eM ?_
  obtain ⟨x84, e84, h1⟩ := bind_e h1
  refine eP (fun H hH => yv_callP rfl rfl (.cons rfl (.cons rfl .nil)) cal146 (CvL.refl _) (d_pool_with_c e84)) ?_
  refine eL sh50 ?_
  refine eM ?_
  refine de_eff0 rfl rfl rfl rfl (Yield.weak (yl_ob (ob' := (⟨42, 4, true, true, v80, [[lst 3 GLayer.av x84.Layers, int x84.Pend.a0, int x84.Pend.a1, int x84.Pend.a2]]⟩ : AObj)) (yl_store rfl sh42 rfl rfl rfl rfl rfl rfl rfl rfl rfl) rfl) (fun _ h => h) (fun _ _ => trivial)) (by rintro _ _ ⟨rfl, rfl⟩; exact ⟨rfl, trivial⟩) ?_; rintro _ _ ⟨rfl, rfl⟩
  refine de_eff0 rfl rfl rfl rfl (Yield.weak (yl_ob (ob' := (⟨50, 3, true, true, v81, [[int x82.2.1.Qty, int x82.2.1.Value, int x82.2.1.Profit]]⟩ : AObj)) (yl_store rfl sh50 rfl rfl rfl rfl rfl rfl rfl rfl rfl) rfl) (fun _ h => h) (fun _ _ => trivial)) (by rintro _ _ ⟨rfl, rfl⟩; exact trivial) ?_; rintro _ _ ⟨rfl, rfl⟩
  refine eA ?_
  refine de_nil (hK _ ?_)
  obtain rfl := nxt_e h1
  refine w_ret (hret _ _ (hk [(1, ⟨42, 4, true, true, v6, [[lst 3 GLayer.av a3.Layers, int a3.Pend.a0, int a3.Pend.a1, int a3.Pend.a2]]⟩), (2, ⟨42, 4, true, true, v7, [[.sc (.slice none 0 0), int 0, int 0, int 0]]⟩), (3, ⟨50, 3, true, true, v8, [[int 0, int 0, int 0]]⟩), (4, ⟨50, 3, true, true, v73, [[int 0, int 0, int 0]]⟩), (5, ⟨42, 4, true, true, v74, [[.sc (.slice none 0 0), int 0, int 0, int 0]]⟩)]) (.cell rfl (.pt rfl rfl rfl) sh42 rfl (.cell rfl (.pt rfl rfl rfl) sh50 rfl (.tmp rfl .nil))) (HK.le ⟨rfl, rfl, rfl, rfl, rfl, trivial⟩) ?_)
  exact ⟨(x84, x82.2.1, x82.2.2), (), rfl, rfl, rfl⟩
  rintro y _ ⟨⟨y12_1, y12_2, y12_3⟩, _, rfl, hc, rfl⟩
  replace h0 := p2_e h0
  replace h0 := p2_e h0
  subst hc
  refine tr tbk 4 (.mk ?_)
  refine sS ⟨42, 4, true, true, v74, [[lst 3 GLayer.av y12_1.Layers, int y12_1.Pend.a0, int y12_1.Pend.a1, int y12_1.Pend.a2]]⟩ sh42 ?_
  refine sS ⟨50, 3, true, true, v73, [[int y12_2.Qty, int y12_2.Value, int y12_2.Profit]]⟩ sh50 ?_
  refine tr tbk 6 (.mk ?_)
  refine nb tbk h0 fun x85 h0 => ?_
  refine tr tbk 1 (.mk ?_)
  cases x85
  replace h0 := cf h0
  refine tc tbk 3 (.mk ?_)
  refine c_drawE [0, 0, 0, 1, 11, 31, 63] (rl [(0, [5]), (1, [4])] []) (rl [(3, [4]), (4, [])] [4, 5]) (rl [(3, false), (4, false)] true) [0, 1, 2, 3, 4, 5, 6] mixed (by kernel_rfl) ?_; intro K hK
  refine eL sh42 ?_
  refine eL sh50 ?_
  refine eM ?_
  refine de_eff0 rfl rfl rfl rfl (Yield.weak (yl_ob (ob' := (⟨42, 4, true, true, v7, [[lst 3 GLayer.av y12_1.Layers, int y12_1.Pend.a0, int y12_1.Pend.a1, int y12_1.Pend.a2]]⟩ : AObj)) (yl_store rfl sh42 rfl rfl rfl rfl rfl rfl rfl rfl rfl) rfl) (fun _ h => h) (fun _ _ => trivial)) (by rintro _ _ ⟨rfl, rfl⟩; exact ⟨rfl, trivial⟩) ?_; rintro _ _ ⟨rfl, rfl⟩
  refine de_eff0 rfl rfl rfl rfl (Yield.weak (yl_ob (ob' := (⟨50, 3, true, true, v8, [[int y12_2.Qty, int y12_2.Value, int y12_2.Profit]]⟩ : AObj)) (yl_store rfl sh50 rfl rfl rfl rfl rfl rfl rfl rfl rfl) rfl) (fun _ h => h) (fun _ _ => trivial)) (by rintro _ _ ⟨rfl, rfl⟩; exact trivial) ?_; rintro _ _ ⟨rfl, rfl⟩
  iterate 2 refine eA ?_
  refine de_nil (hK _ ?_)
  obtain rfl := nxt_e h0
  refine wR hret (rC sh42 (rC sh50 (rT (rT .nil)))) ?_
  exact .refl _
  replace h0 := ct h0
  refine tc tbk 4 (.mk ?_)
  obtain ⟨x86, e86, h0⟩ := bind_e h0
  refine sC cal96 (d_pool_own_c e86) ?_
  refine tr tbk 2 (.mk ?_)
  refine sS ⟨42, 4, true, true, v7, [[lst 3 GLayer.av x86.Layers, int x86.Pend.a0, int x86.Pend.a1, int x86.Pend.a2]]⟩ sh42 ?_
  refine sS ⟨50, 3, true, true, v8, [[int 0, int 0, int 0]]⟩ sh50 ?_
  refine tr tbk 3 (.mk ?_)
  obtain rfl := nxt_e h0
  refine wR hret (rC sh42 (rC sh50 (rT (rT .nil)))) ?_
  exact .refl _
  replace h0 := ct h0
  refine tc tbk 4 (.mk ?_)
  obtain ⟨x87, e87, h0⟩ := bind_e h0
  refine sC cal96 (d_pool_own_c e87) ?_
  refine tr tbk 1 (.mk ?_)
  refine sS ⟨42, 4, true, true, v7, [[lst 3 GLayer.av x87.Layers, int x87.Pend.a0, int x87.Pend.a1, int x87.Pend.a2]]⟩ sh42 ?_
  refine sS ⟨50, 3, true, true, v8, [[int 0, int 0, int 0]]⟩ sh50 ?_
  refine tr tbk 3 (.mk ?_)
  obtain rfl := nxt_e h0
  refine wR hret (rC sh42 (rC sh50 (rT (rT .nil)))) ?_
  exact .refl _
def d_stock_Fetch (n : Nat) (a1 : GState) (a2 : Int) (a3 : Int) (a4 : Int) (a5 : Int) (a6 : Int) : Option (GState × GLayer × Bool × Int) :=
(d_stock_place a1 a2 a3 a4).bind fun x10 =>
bnd (decide (x10 < 0)) fun x11 =>
cond x11 (some ((a1 : GState), ((⟨0, 0, 0⟩ : GLayer) : GLayer), (false : Bool), (4 : Int))) ((ix a1.Master.Methods a2).bind fun x12 =>
(ix x12 a3).bind fun x13 =>
(ix a1.Master.Costs a2).bind fun x14 =>
(ix x14 a3).bind fun x15 =>
(ix a1.Ents a2).bind fun x16 =>
(ix x16.Pools x10).bind fun x17 =>
(d_pool_Out n x13 x15 x17 a5 a6).bind fun x18 =>
bnd x18.2.2.1 fun x20 =>
bnd (decide (x18.2.2.2 ≠ 0)) fun x21 =>
cond x21 (some ((a1 : GState), ((⟨0, 0, 0⟩ : GLayer) : GLayer), (false : Bool), (x18.2.2.2 : Int))) ((show Option ((Int × Bool × (List Int) × (List GRoll) × (List Int) × (List Int) × (List GEnt) × (List GPool))) from
(show Option ((Unit)) from
asrt (a1.Ents.length ≤ 68719476736) <|
(ix a1.Ents a2).bind fun x28 =>
some ()).bind <| fun _ =>
(ix a1.Ents a2).bind fun x29 =>
asrt (x29.Pools.length ≤ 68719476736) <|
(ix x29.Pools x10).bind fun x32 =>
bnd (x29.Pools.set (Int.toNat x10) (x18.1 : GPool)) fun x33 =>
some ((x29.Now : Int), (x29.Closed : Bool), (x29.Bal : List Int), (x29.Rolls : List GRoll), (x29.Prices : List Int), (x29.Down : List Int), (x29.Ahead : List GEnt), (x33 : List GPool))).bind <| p2 fun (y1_2 : Int) (q0 : Bool × (List Int) × (List GRoll) × (List Int) × (List Int) × (List GEnt) × (List GPool)) => (p2 fun (y1_3 : Bool) (q1 : (List Int) × (List GRoll) × (List Int) × (List Int) × (List GEnt) × (List GPool)) => (p2 fun (y1_5 : List Int) (q2 : (List GRoll) × (List Int) × (List Int) × (List GEnt) × (List GPool)) => (p2 fun (y1_6 : List GRoll) (q3 : (List Int) × (List Int) × (List GEnt) × (List GPool)) => (p2 fun (y1_7 : List Int) (q4 : (List Int) × (List GEnt) × (List GPool)) => (p2 fun (y1_8 : List Int) (q5 : (List GEnt) × (List GPool)) => (p2 fun (y1_9 : List GEnt) (y1_10 : List GPool) =>
(ix a1.Ents a2).bind fun x34 =>
some (((⟨a1.Master, (a1.Ents.set (Int.toNat a2) (⟨y1_2, y1_3, y1_10, y1_5, y1_6, y1_7, y1_8, y1_9⟩ : GEnt)), a1.Receipts, a1.Sales, a1.Transits, a1.Done⟩ : GState) : GState), (x18.2.1 : GLayer), (x20 : Bool), (0 : Int))) q5) q4) q3) q2) q1) q0))
theorem d_stock_Fetch_c {n : Nat} {a1 : GState} {a2 : Int} {a3 : Int} {a4 : Int} {a5 : Int} {a6 : Int} {r : GState × GLayer × Bool × Int} (h0 : d_stock_Fetch n a1 a2 a3 a4 a5 a6 = some r) : PP Tryz.prog 25 [.agg (GState.av a1), int a2, int a3, int a4, int a5, int a6] (fun y => y = .tup [.agg (GState.av r.1), .agg (GLayer.av r.2.1), boo r.2.2.1, int r.2.2.2]) := by
  unfold d_stock_Fetch at h0
  refine pp_of_pc (R0 := fun y H => Cv (frzH H) y (.tup [.agg (GState.av r.1), .agg (GLayer.av r.2.1), boo r.2.2.1, int r.2.2.2])) ?_ (fun y H hc => ⟨_, rfl, .tup (pvl4 ((fun (a : GState) => PV.agg (GState.pvc a)) (r.1)) ((fun (a : GLayer) => PV.agg (GLayer.pvc a)) (r.2.1)) (pvB (r.2.2.1)) (pvI (r.2.2.2))), hc⟩)
  refine pcw (c := _) Tryz.func25 rfl rfl ?_; intro Q hret hnorm
  refine tc tbk 2 (.mk ?_)
  refine sB 1 fun v7 => ?_
  refine sA 2 z32 fun v8 => ?_
  refine sA 3 z50 fun v9 => ?_
  refine tr tbk 9 (.mk ?_)
  obtain ⟨x10, e10, h0⟩ := bind_e h0
  refine sC cal46 (d_stock_place_c e10) ?_
  refine tr tbk 6 (.mk ?_)
  refine nb tbk h0 fun x11 h0 => ?_
  refine tr tbk 1 (.mk ?_)
  cases x11
  replace h0 := cf h0
  refine tc tbk 3 (.mk ?_)
  refine c_drawE [0, 1, 3, 0, 15, 31, 0, 127, 255, 0, 512, 1536, 0, 7680, 15872, 0, 65024, 130560, 0, 262144, 0, 1835008, 3932160, 8126464, 0, 33292288, 66846720, 0, 0, 536870911, 1073741823, 2147483647, 2147483647, 2147483647, 2147483647, 0, 38654705663, 111669149695, 257698037759, 549755813887] (rl [(0, [1]), (1, [1]), (2, [1]), (9, [1]), (10, [1]), (11, [1]), (18, [1]), (19, [1])] []) (rl [(36, []), (37, [])] [1]) (rl [(35, false), (36, false), (37, false)] true) [0, 1, 2, 3, 4, 5, 6, 7, 8, 9, 10, 11, 12, 13, 14, 15, 16, 17, 18, 19, 20, 21, 22, 23, 24, 25, 26, 27, 28, 29, 30, 31, 32, 33, 34, 35, 36, 37, 38, 39] mixed (by kernel_rfl) ?_; intro K hK
  refine eF fo32_0 ?_
  refine eF fo26_3 ?_
  refine eL sh24 ?_
  refine eM ?_
  obtain ⟨x12, e12, h0⟩ := bind_e h0
  refine eP (fun H hH => yv_ixT rfl Tryz.underlying24 sh23 rfl rfl e12) ?_
  refine eP (fun H hH => yv_load rfl sh23 rfl (.pp _) rfl) ?_
  refine eM ?_
  obtain ⟨x13, e13, h0⟩ := bind_e h0
  refine eP (fun H hH => yv_ixT rfl Tryz.underlying23 sh3 rfl rfl e13) ?_
  refine eP (fun H hH => yv_load rfl sh3 rfl (.pp _) rfl) ?_
  refine eF fo32_0 ?_
  refine eF fo26_4 ?_
  refine eL sh24 ?_
  refine eM ?_
  obtain ⟨x14, e14, h0⟩ := bind_e h0
  refine eP (fun H hH => yv_ixT rfl Tryz.underlying24 sh23 rfl rfl e14) ?_
  refine eP (fun H hH => yv_load rfl sh23 rfl (.pp _) rfl) ?_
  refine eM ?_
  obtain ⟨x15, e15, h0⟩ := bind_e h0
  refine eP (fun H hH => yv_ixT rfl Tryz.underlying23 sh3 rfl rfl e15) ?_
  refine eP (fun H hH => yv_load rfl sh3 rfl (.pp _) rfl) ?_
  refine eF fo32_1 ?_
  refine eL sh27 ?_
  refine eM ?_
  obtain ⟨x16, e16, h0⟩ := bind_e h0
  refine eP (fun H hH => yv_to (y := .pp [int x16.Now, boo x16.Closed, lst 4 GPool.av x16.Pools, lst 1 fI x16.Bal, lst 11 GRoll.av x16.Rolls, lst 1 fI x16.Prices, lst 1 fI x16.Down, lst 8 GEnt.av x16.Ahead]) (yv_ixT rfl Tryz.underlying27 sh47 rfl rfl e16) (congrArg AV.pp (GEnt.av_eq x16))) ?_
  refine eP (fun H hH => yv_fieldAddr rfl fo47_2 rfl (.pp _) (.pp _ _)) ?_
  refine eP (fun H hH => yv_load rfl sh44 rfl (.pp _) rfl) ?_
  refine eM ?_
  obtain ⟨x17, e17, h0⟩ := bind_e h0
  refine eP (fun H hH => yv_ixT rfl Tryz.underlying44 sh42 rfl rfl e17) ?_
  refine eP (fun H hH => yv_load rfl sh42 rfl (.pp _) rfl) ?_
  iterate 2 refine eM ?_
  obtain ⟨x18, e18, h0⟩ := bind_e h0
  refine eP (fun H hH => yv_callP rfl rfl (.cons rfl (.cons rfl (.cons rfl (.cons rfl (.cons rfl .nil))))) cal51 (CvL.refl _) (d_pool_Out_c e18)) ?_
  refine eM ?_
  iterate 4 refine eX ?_
  refine de_eff rfl rfl rfl rfl (yl_alloc 4 .any rfl z42 rfl) (by rintro _ _ ⟨v19, -, rfl, rfl⟩; exact ⟨rfl, trivial⟩) ?_; rintro _ _ ⟨v19, -, rfl, rfl⟩
  refine de_eff0 rfl rfl rfl rfl (Yield.weak (yl_ob (ob' := (⟨42, 4, true, true, v19, [[lst 3 GLayer.av x18.1.Layers, int x18.1.Pend.a0, int x18.1.Pend.a1, int x18.1.Pend.a2]]⟩ : AObj)) (yl_store rfl sh42 rfl rfl rfl rfl rfl rfl rfl rfl rfl) rfl) (fun _ h => h) (fun _ _ => trivial)) (by rintro _ _ ⟨rfl, rfl⟩; exact trivial) ?_; rintro _ _ ⟨rfl, rfl⟩
  refine de_eff0 rfl rfl rfl rfl (Yield.weak (yl_ob (ob' := (⟨50, 3, true, true, v9, [[int x18.2.1.Qty, int x18.2.1.Value, int x18.2.1.Profit]]⟩ : AObj)) (yl_store rfl sh50 rfl rfl rfl rfl rfl rfl rfl rfl rfl) rfl) (fun _ h => h) (fun _ _ => trivial)) (by rintro _ _ ⟨rfl, rfl⟩; exact trivial) ?_; rintro _ _ ⟨rfl, rfl⟩
  obtain ⟨x20, e20, h0⟩ := bnd_e h0
  refine eP (fun H hH => yv_to (y := boo x20) (yv_assign rfl rfl) (congrArg boo e20)) ?_
  refine eA ?_
  refine de_nil (hK _ ?_)
  refine tc tbk 4 (.mk ?_)
  refine nb tbk h0 fun x21 h0 => ?_
  refine tr tbk 1 (.mk ?_)
  cases x21
  replace h0 := cf h0
  refine tc tbk 5 (.mk ?_)
  refine sY (yv_build (cs := (GState.av a1)) (ps := [(0, _)]) rfl pl93 z93 rfl (.cons rfl .nil) (by kernel_rfl)) ?_
  refine sA 5 z93 fun v22 => ?_
  refine sS ⟨93, 10, true, true, v22, [(GState.av a1)]⟩ sh93 ?_
  refine tr tbk 6 (.mk ?_)
  obtain ⟨j23, h1, h0⟩ := bind_e h0
  refine rse (Out := fun y H' => (∃ (a : Int × Bool × (List Int) × (List GRoll) × (List Int) × (List Int) × (List GEnt) × (List GPool)) (k : Nat × Nat), a = j23 ∧ y = .tup [] ∧ H' = hk [(1, ⟨32, 10, true, true, v7, [(GState.av a1)]⟩), (2, ⟨32, 10, true, true, v8, [[int 0, int 0, .sc (.slice none 0 0), .sc (.slice none 0 0), .sc (.slice none 0 0), .sc (.slice none 0 0), .sc (.slice none 0 0), .sc (.slice none 0 0), .sc (.slice none 0 0), int 0]]⟩), (3, ⟨50, 3, true, true, v9, [[int x18.2.1.Qty, int x18.2.1.Value, int x18.2.1.Profit]]⟩), (4, ⟨42, 4, true, true, v19, [[lst 3 GLayer.av x18.1.Layers, int x18.1.Pend.a0, int x18.1.Pend.a1, int x18.1.Pend.a2]]⟩), (5, ⟨93, 10, true, true, v22, [[int a1.Master.Entities, int a1.Master.Periods, lst 1 fI a1.Master.Weights, lst 1 (fL 1 fI) a1.Master.Methods, lst 1 (fL 1 fI) a1.Master.Costs, .sl 7 k.1 0 a1.Ents.length, lst 8 GReceipt.av a1.Receipts, lst 9 GSale.av a1.Sales, lst 6 GTransit.av a1.Transits, int a1.Done]]⟩), (7, ⟨47, 8, true, true, k.1, (a1.Ents.map GEnt.av).set (Int.toNat a2) [int a.1, boo a.2.1, .sl 8 k.2 0 a.2.2.2.2.2.2.2.length, lst 1 fI a.2.2.1, lst 11 GRoll.av a.2.2.2.1, lst 1 fI a.2.2.2.2.1, lst 1 fI a.2.2.2.2.2.1, lst 8 GEnt.av a.2.2.2.2.2.2.1]⟩), (8, ⟨42, 4, true, true, k.2, a.2.2.2.2.2.2.2.map GPool.av⟩)])) rfl rfl rfl (yl_call rfl rfl (.cons rfl (.cons rfl (.cons rfl (.cons rfl .nil)))) cal48 ?_) ?_
  refine pcw (c := _) Tryz.func48 rfl rfl ?_; intro Q hret hnorm
  refine tc tbk 2 (.mk ?_)
  refine sB 6 fun v24 => ?_
  refine tr tbk 5 (.mk ?_)
  obtain ⟨j25, h2, h1⟩ := bind_e h1
  refine rse (Out := fun y H' => (∃ (a : Unit) (k : Nat), a = j25 ∧ y = .pt 7 k (Int.toNat a2) 0 ∧ H' = hk [(1, ⟨32, 10, true, true, v7, [(GState.av a1)]⟩), (2, ⟨32, 10, true, true, v8, [[int 0, int 0, .sc (.slice none 0 0), .sc (.slice none 0 0), .sc (.slice none 0 0), .sc (.slice none 0 0), .sc (.slice none 0 0), .sc (.slice none 0 0), .sc (.slice none 0 0), int 0]]⟩), (3, ⟨50, 3, true, true, v9, [[int x18.2.1.Qty, int x18.2.1.Value, int x18.2.1.Profit]]⟩), (4, ⟨42, 4, true, true, v19, [[lst 3 GLayer.av x18.1.Layers, int x18.1.Pend.a0, int x18.1.Pend.a1, int x18.1.Pend.a2]]⟩), (5, ⟨93, 10, true, true, v22, [[int a1.Master.Entities, int a1.Master.Periods, lst 1 fI a1.Master.Weights, lst 1 (fL 1 fI) a1.Master.Methods, lst 1 (fL 1 fI) a1.Master.Costs, .sl 7 k 0 a1.Ents.length, lst 8 GReceipt.av a1.Receipts, lst 9 GSale.av a1.Sales, lst 6 GTransit.av a1.Transits, int a1.Done]]⟩), (6, ⟨42, 4, true, true, v24, [[lst 3 GLayer.av x18.1.Layers, int x18.1.Pend.a0, int x18.1.Pend.a1, int x18.1.Pend.a2]]⟩), (7, ⟨47, 8, true, true, k, a1.Ents.map GEnt.av⟩)])) rfl rfl rfl (yl_call rfl rfl (.cons rfl (.cons rfl .nil)) cal97 ?_) ?_
  refine pcw (c := _) Tryz.func97 rfl rfl ?_; intro Q hret hnorm
  refine tc tbk 12 (.mk ?_)
  obtain ⟨p26, h2⟩ := asrt_e h2
  refine rse rfl rfl rfl (yl_call rfl rfl (.cons rfl .nil) cal121 (pc_cv (clone121_c (id := 7) (l := a1.Ents) rfl p26) (.cons (.refl _) .nil))) ?_; rintro _ _ ⟨v27, rfl, rfl⟩
  refine tr tbk 3 (.mk ?_)
  refine sS ⟨93, 10, true, true, v22, [[int a1.Master.Entities, int a1.Master.Periods, lst 1 fI a1.Master.Weights, lst 1 (fL 1 fI) a1.Master.Methods, lst 1 (fL 1 fI) a1.Master.Costs, .sl 7 v27 0 a1.Ents.length, lst 8 GReceipt.av a1.Receipts, lst 9 GSale.av a1.Sales, lst 6 GTransit.av a1.Transits, int a1.Done]]⟩ sh27 ?_
  refine tr tbk 9 (.mk ?_)
  obtain ⟨x28, e28, h2⟩ := bind_e h2
  refine sY (yv_ixO rfl Tryz.underlying27 sh47 rfl rfl rfl rfl rfl (Eq.symm rfl) (List.length_map _) e28) ?_
  refine tr tbk 2 (.mk ?_)
  obtain rfl := nxt_e h2
  refine w_ret (hret _ _ (hk [(1, ⟨32, 10, true, true, v7, [(GState.av a1)]⟩), (2, ⟨32, 10, true, true, v8, [[int 0, int 0, .sc (.slice none 0 0), .sc (.slice none 0 0), .sc (.slice none 0 0), .sc (.slice none 0 0), .sc (.slice none 0 0), .sc (.slice none 0 0), .sc (.slice none 0 0), int 0]]⟩), (3, ⟨50, 3, true, true, v9, [[int x18.2.1.Qty, int x18.2.1.Value, int x18.2.1.Profit]]⟩), (4, ⟨42, 4, true, true, v19, [[lst 3 GLayer.av x18.1.Layers, int x18.1.Pend.a0, int x18.1.Pend.a1, int x18.1.Pend.a2]]⟩), (5, ⟨93, 10, true, true, v22, [[int a1.Master.Entities, int a1.Master.Periods, lst 1 fI a1.Master.Weights, lst 1 (fL 1 fI) a1.Master.Methods, lst 1 (fL 1 fI) a1.Master.Costs, .sl 7 v27 0 a1.Ents.length, lst 8 GReceipt.av a1.Receipts, lst 9 GSale.av a1.Sales, lst 6 GTransit.av a1.Transits, int a1.Done]]⟩), (6, ⟨42, 4, true, true, v24, [[lst 3 GLayer.av x18.1.Layers, int x18.1.Pend.a0, int x18.1.Pend.a1, int x18.1.Pend.a2]]⟩), (7, ⟨47, 8, true, true, v27, a1.Ents.map GEnt.av⟩)]) (.tmp rfl .nil) (HK.le ⟨rfl, rfl, rfl, rfl, rfl, rfl, rfl, trivial⟩) ?_)
  exact ⟨(), v27, rfl, rfl, rfl⟩
  rintro y _ ⟨_, w0_1, rfl, hc, rfl⟩
  subst hc
  refine tr tbk 6 (.mk ?_)
  obtain ⟨x29, e29, h1⟩ := bind_e h1
  refine sY (yv_nilCheck rfl rfl (.pt rfl rfl (ix_get' e29 (GEnt.av_eq _)))) ?_
  refine sY (yv_fieldAddr rfl fo47_2 rfl (.pt rfl rfl (ix_get' e29 (GEnt.av_eq _))) (.pt _ _ _ _ _)) ?_
  refine sY (yv_load rfl sh44 rfl (.pt rfl rfl (ix_get' e29 (GEnt.av_eq _))) rfl) ?_
  obtain ⟨p30, h1⟩ := asrt_e h1
  refine rse rfl rfl rfl (yl_call rfl rfl (.cons rfl .nil) cal98 (pc_cv (clone98_c (id := 8) (l := x29.Pools) rfl p30) (.cons (.refl _) .nil))) ?_; rintro _ _ ⟨v31, rfl, rfl⟩
  refine sY (yv_nilCheck rfl rfl (.pt rfl rfl (ix_get' e29 (GEnt.av_eq _)))) ?_
  refine sY (yv_fieldAddr rfl fo47_2 rfl (.pt rfl rfl (ix_get' e29 (GEnt.av_eq _))) (.pt _ _ _ _ _)) ?_
  refine rsstore rfl rfl (yl_ob (ob' := (⟨47, 8, true, true, w0_1, (a1.Ents.map GEnt.av).set (Int.toNat a2) [int x29.Now, boo x29.Closed, .sl 8 v31 0 x29.Pools.length, lst 1 fI x29.Bal, lst 11 GRoll.av x29.Rolls, lst 1 fI x29.Prices, lst 1 fI x29.Down, lst 8 GEnt.av x29.Ahead]⟩ : AObj)) (yl_store rfl sh44 rfl rfl rfl rfl rfl (ix_get' e29 (GEnt.av_eq _)) rfl rfl rfl) (ob_eq rfl)) ?_
  refine tr tbk 1 (.mk ?_)
  refine c_drawE [0, 1, 3, 7, 0, 0, 63, 127] (rl [(1, [7]), (2, [7]), (3, [7]), (5, [6]), (6, [8])] []) (rl [(7, [])] [6, 7, 8]) (rl [(7, false)] true) [0, 1, 2, 3, 4, 5, 6, 7] mixed (by kernel_rfl) ?_; intro K hK
  refine eM ?_
  refine eN (hr := set_get e29) ?_
  refine eF fo47_2 (hr := set_get e29) ?_
  refine eL sh44 (hr := set_get e29) ?_
  refine eM ?_
  refine eL sh42 ?_
  obtain ⟨x32, e32, h1⟩ := bind_e h1
  refine de_pure rfl rfl rfl rfl (fun H hH => yv_ixO rfl Tryz.underlying44 sh42 rfl rfl ((hH _ (by decide)).trans rfl) rfl rfl (Eq.symm rfl) (List.length_map _) e32) ?_
  obtain ⟨x33, e33, h1⟩ := bnd_e h1
  have fx33 := ix_set e32 e33; have lx33 := len_setV e33 (rfl : x29.Pools.length = x29.Pools.length)
  refine de_eff0 rfl rfl rfl rfl (Yield.weak (yl_ob (ob' := (⟨42, 4, true, true, v31, x33.map GPool.av⟩ : AObj)) (yl_store rfl sh42 rfl rfl rfl rfl rfl (ix_get e32) rfl rfl rfl) (ob_eq (map_setV e33))) (fun _ h => h) (fun _ _ => trivial)) (by rintro _ _ ⟨rfl, rfl⟩; exact trivial) ?_; rintro _ _ ⟨rfl, rfl⟩
  refine de_nil (hK _ ?_)
  obtain rfl := nxt_e h1
  refine c_nil (hnorm _ _ (hk [(1, ⟨32, 10, true, true, v7, [(GState.av a1)]⟩), (2, ⟨32, 10, true, true, v8, [[int 0, int 0, .sc (.slice none 0 0), .sc (.slice none 0 0), .sc (.slice none 0 0), .sc (.slice none 0 0), .sc (.slice none 0 0), .sc (.slice none 0 0), .sc (.slice none 0 0), int 0]]⟩), (3, ⟨50, 3, true, true, v9, [[int x18.2.1.Qty, int x18.2.1.Value, int x18.2.1.Profit]]⟩), (4, ⟨42, 4, true, true, v19, [[lst 3 GLayer.av x18.1.Layers, int x18.1.Pend.a0, int x18.1.Pend.a1, int x18.1.Pend.a2]]⟩), (5, ⟨93, 10, true, true, v22, [[int a1.Master.Entities, int a1.Master.Periods, lst 1 fI a1.Master.Weights, lst 1 (fL 1 fI) a1.Master.Methods, lst 1 (fL 1 fI) a1.Master.Costs, .sl 7 w0_1 0 a1.Ents.length, lst 8 GReceipt.av a1.Receipts, lst 9 GSale.av a1.Sales, lst 6 GTransit.av a1.Transits, int a1.Done]]⟩), (7, ⟨47, 8, true, true, w0_1, (a1.Ents.map GEnt.av).set (Int.toNat a2) [int x29.Now, boo x29.Closed, .sl 8 v31 0 x33.length, lst 1 fI x29.Bal, lst 11 GRoll.av x29.Rolls, lst 1 fI x29.Prices, lst 1 fI x29.Down, lst 8 GEnt.av x29.Ahead]⟩), (8, ⟨42, 4, true, true, v31, x33.map GPool.av⟩)]) .nil (HK.le ⟨rfl, rfl, rfl, rfl, rfl, (by first | rfl | exact lx33 ▸ rfl), rfl, trivial⟩) ?_)
  exact ⟨(x29.Now, x29.Closed, x29.Bal, x29.Rolls, x29.Prices, x29.Down, x29.Ahead, x33), (w0_1, v31), rfl, rfl, rfl⟩
  rintro y _ ⟨⟨y1_2, y1_3, y1_5, y1_6, y1_7, y1_8, y1_9, y1_10⟩, ⟨w1_1, w1_4⟩, rfl, hc, rfl⟩
  replace h0 := p2_e h0
  replace h0 := p2_e h0
  replace h0 := p2_e h0
  replace h0 := p2_e h0
  replace h0 := p2_e h0
  replace h0 := p2_e h0
  replace h0 := p2_e h0
  subst hc
  obtain ⟨x34, e34, h0⟩ := bind_e h0
  refine tr tbk 2 (.mk ?_)
  refine c_drawE [0, 1, 0, 0, 3, 23, 63, 127] (rl [(0, [5]), (1, [5]), (2, [3])] []) (rl [(4, [3]), (5, [])] [3, 5]) (rl [(4, false), (5, false)] true) [0, 1, 2, 3, 4, 5, 6, 7] mixed (by kernel_rfl) ?_; intro K hK
  refine eF fo93_0 ?_
  refine eL sh32 ?_
  refine eL sh50 ?_
  refine eM ?_
  refine de_eff0 rfl rfl rfl rfl (Yield.weak (yl_ob (ob' := (⟨32, 10, true, true, v8, [[int a1.Master.Entities, int a1.Master.Periods, lst 1 fI a1.Master.Weights, lst 1 (fL 1 fI) a1.Master.Methods, lst 1 (fL 1 fI) a1.Master.Costs, .sl 7 w1_1 0 a1.Ents.length, lst 8 GReceipt.av a1.Receipts, lst 9 GSale.av a1.Sales, lst 6 GTransit.av a1.Transits, int a1.Done]]⟩ : AObj)) (yl_store rfl sh32 rfl rfl rfl rfl rfl rfl rfl rfl rfl) rfl) (fun _ h => h) (fun _ _ => trivial)) (by rintro _ _ ⟨rfl, rfl⟩; exact ⟨rfl, trivial⟩) ?_; rintro _ _ ⟨rfl, rfl⟩
  refine de_eff0 rfl rfl rfl rfl (Yield.weak (yl_ob (ob' := (⟨50, 3, true, true, v9, [[int x18.2.1.Qty, int x18.2.1.Value, int x18.2.1.Profit]]⟩ : AObj)) (yl_store rfl sh50 rfl rfl rfl rfl rfl rfl rfl rfl rfl) rfl) (fun _ h => h) (fun _ _ => trivial)) (by rintro _ _ ⟨rfl, rfl⟩; exact trivial) ?_; rintro _ _ ⟨rfl, rfl⟩
  iterate 2 refine eA ?_
  refine de_nil (hK _ ?_)
  obtain rfl := nxt_e h0
  refine wR hret (rC sh32 (rC sh50 (rT (rT .nil)))) ?_
  exact CvL.tup (.cons (CvL.agg (.cons (.refl _) (.cons (.refl _) (.cons (.refl _) (.cons (.refl _) (.cons (.refl _) (.cons (cv_ov rfl rfl rfl rfl rfl (Eq.symm rfl) e34 (cvl_to (.cons (.refl _) (.cons (.refl _) (.cons (cv_lst rfl rfl rfl rfl rfl (Eq.symm rfl)) (.cons (.refl _) (.cons (.refl _) (.cons (.refl _) (.cons (.refl _) (.cons (.refl _) .nil)))))))) (GEnt.av_eq _))) (.cons (.refl _) (.cons (.refl _) (.cons (.refl _) (.cons (.refl _) .nil))))))))))) (.cons (.refl _) (.cons (.refl _) (.cons (.refl _) .nil))))
  replace h0 := ct h0
  refine tc tbk 6 (.mk ?_)
  refine sS ⟨32, 10, true, true, v8, [(GState.av a1)]⟩ sh32 ?_
  refine sS ⟨50, 3, true, true, v9, [[int 0, int 0, int 0]]⟩ sh50 ?_
  refine tr tbk 3 (.mk ?_)
  obtain rfl := nxt_e h0
  refine wR hret (rC sh32 (rC sh50 (rT (rT .nil)))) ?_
  exact .refl _
  replace h0 := ct h0
  refine tc tbk 5 (.mk ?_)
  refine sS ⟨32, 10, true, true, v8, [(GState.av a1)]⟩ sh32 ?_
  refine sS ⟨50, 3, true, true, v9, [[int 0, int 0, int 0]]⟩ sh50 ?_
  refine tr tbk 3 (.mk ?_)
  obtain rfl := nxt_e h0
  refine wR hret (rC sh32 (rC sh50 (rT (rT .nil)))) ?_
  exact .refl _
def d_ship_ship_L0 (a1 : GState) (a2 : GOp) : Nat → Int → Option ((Unit) ⊕ (GState × Int))
  | 0, _ => none
  | n + 1, y0_1 =>
    bnd (decide (y0_1 < 2)) fun x7 =>
    cond x7 ((ix ([a2.E, a2.To] : List Int) y0_1).bind fun x8 =>
    (d_stock_Ready a1 x8 a2.Item).bind fun x9 =>
    bnd (decide (x9 ≠ 0)) fun x10 =>
    cond x10 (esc (some ((a1 : GState), (x9 : Int)))) (bnd (w64 (y0_1 + 1)) fun x11 =>
    d_ship_ship_L0 a1 a2 n (x11 : Int))) (brk ())
def d_ship_ship (n : Nat) (a1 : GState) (a2 : GOp) : Option (GState × Int) :=
(show Option ((Unit) ⊕ (GState × Int)) from
d_ship_ship_L0 a1 a2 n (0 : Int)).bind <| sel <| fun _ =>
bnd (decide ((a1.Transits.length : Int) ≥ 40)) fun x13 =>
cond x13 (some ((a1 : GState), (6 : Int))) ((d_stock_Fetch n a1 a2.E a2.Item a2.Loc 3 a2.Qty).bind fun x14 =>
bnd (decide (x14.2.2.2 ≠ 0)) fun x16 =>
cond x16 (some ((x14.1 : GState), (x14.2.2.2 : Int))) ((d_ship_line 13 a2.Amount).bind fun x17 =>
bnd (w64 (0 - a2.Amount)) fun x18 =>
(d_ship_line 15 x18).bind fun x19 =>
(d_ship_line 16 x14.2.1.Value).bind fun x20 =>
bnd (w64 (0 - x14.2.1.Value)) fun x21 =>
(d_ship_line 0 x21).bind fun x22 =>
(d_ship_line 12 a2.Amount).bind fun x23 =>
bnd (w64 (0 - a2.Amount)) fun x24 =>
(d_ship_line 14 x24).bind fun x25 =>
(d_ship_post n x14.1 ([(⟨a2.E, ([x17, x19, x20, x22] : List GLine)⟩ : Gentry), (⟨a2.To, ([x23, x25] : List GLine)⟩ : Gentry)] : List Gentry)).bind fun x26 =>
bnd (decide (x26.2 ≠ 0)) fun x27 =>
cond x27 (some ((x26.1 : GState), (x26.2 : Int))) ((d_stock_Turn x26.1 a2.E a2.Item (⟨0, 0, 0, 0, 0, 0, x14.2.1.Value, 0, 0, 0, 0⟩ : GRoll)).bind fun x28 =>
bnd (decide (x28.2 ≠ 0)) fun x29 =>
cond x29 (some ((x28.1 : GState), (x28.2 : Int))) (bnd (w64 (a2.Amount - x14.2.1.Value)) fun x30 =>
bnd (w64 (x30 + x14.2.1.Profit)) fun x31 =>
(show Option (Bool) from
bnd (decide (x31 < (-288230376151711744))) fun x33 =>
cond x33 (some (true : Bool)) (bnd (decide (x31 > 288230376151711744)) fun x34 =>
some (x34 : Bool))).bind <| fun y2_1 =>
cond y2_1 (some ((x28.1 : GState), (2 : Int))) (asrt (x28.1.Transits.length ≤ 68719476736) <|
bnd (x28.1.Transits ++ ([(⟨a2.E, a2.To, a2.Item, a2.Qty, a2.Amount, x31⟩ : GTransit)] : List GTransit)) fun x37 =>
asrt (x37.length ≤ 68719476736) <|
some (((⟨x28.1.Master, x28.1.Ents, x28.1.Receipts, x28.1.Sales, x37, x28.1.Done⟩ : GState) : GState), (0 : Int)))))))
theorem d_ship_ship_c {n : Nat} {a1 : GState} {a2 : GOp} {r : GState × Int} (h0 : d_ship_ship n a1 a2 = some r) : PP Tryz.prog 40 [.agg (GState.av a1), .agg (GOp.av a2)] (fun y => y = .tup [.agg (GState.av r.1), int r.2]) := by
  unfold d_ship_ship at h0
  refine pp_of_pc (R0 := fun y H => Cv (frzH H) y (.tup [.agg (GState.av r.1), int r.2])) ?_ (fun y H hc => ⟨_, rfl, .tup (pvl2 ((fun (a : GState) => PV.agg (GState.pvc a)) (r.1)) (pvI (r.2))), hc⟩)
  refine pcw (c := _) Tryz.func40 rfl rfl ?_; intro Q hret hnorm
  refine tc tbk 2 (.mk ?_)
  refine sB 1 fun v3 => ?_
  refine sB 2 fun v4 => ?_
  refine sA 3 z32 fun v5 => ?_
  refine tr tbk 9 (.mk ?_)
  refine sY (yv_buildA (cs := [int a2.E, int a2.To]) (ps := [(0, _), (1, _)]) rfl Tryz.underlying123 sh3 z123 rfl (.cons rfl (.cons rfl .nil)) (by kernel_rfl)) ?_
  refine tr tbk 2 (.mk ?_)
  refine jnE h0 [2, 3, 4, 5] [1, 2, 3] (fun (a : Unit) (k : Unit) => []) (fun a k => []) ⟨fun j6 h1 h0 => ?_, ?_⟩
  refine tc tbk 1 (.mk ?_)
  refine lp (fun n (a : Int) => d_ship_ship_L0 a1 a2 n a) (0 : Int) () h1 [2, 3, 4, 5, 17] [1, 2, 3] (fun (a : Int) (k : Unit) => [(18, int a)]) (fun a k => []) (fun _ => rfl) ⟨leA, ?_⟩
  rintro n y0_1 _ hm h1
  replace h1 : d_ship_ship_L0 a1 a2 (n + 1) y0_1 = some _ := h1
  rw [d_ship_ship_L0] at h1
  refine tc tbk 2 (.mk ?_)
  refine nb tbk h1 fun x7 h1 => ?_
  refine tr tbk 2 (.mk ?_)
  cases x7
  replace h1 := cf h1
  refine tc tbk 2 (.mk ?_)
  exact lfE h1 () leA
  replace h1 := ct h1
  refine tc tbk 6 (.mk ?_)
  obtain ⟨x8, e8, h1⟩ := bind_e h1
  refine sY (yv_indexAT (g := fI) (l := ([a2.E, a2.To] : List Int)) (v := x8) (w := int x8) rfl Tryz.underlying123 sh3 rfl rfl rfl e8 (fun _ => rfl) hw1) ?_
  refine tr tbk 8 (.mk ?_)
  obtain ⟨x9, e9, h1⟩ := bind_e h1
  refine sC cal26 (d_stock_Ready_c e9) ?_
  refine tr tbk 5 (.mk ?_)
  refine nb tbk h1 fun x10 h1 => ?_
  refine tr tbk 1 (.mk ?_)
  cases x10
  replace h1 := cf h1
  refine tc tbk 4 (.mk ?_)
  refine ni tbk h1 fun x11 h1 => ?_
  refine tr tbk 2 (.mk ?_)
  exact bk x11 () h1 leA
  replace h1 := ct h1
  refine tc tbk 5 (.mk ?_)
  refine sS ⟨32, 10, true, true, v5, [(GState.av a1)]⟩ sh32 ?_
  refine tr tbk 2 (.mk ?_)
  obtain ⟨c12, hX, hj⟩ := esc_e h1; subst hj; replace h0 := hX.trans (sel_r h0)
  obtain rfl := nxt_e h0
  refine wR hret (rC sh32 (rT .nil)) ?_
  exact .refl _
  rintro _ _ h0
  refine tc tbk 5 (.mk ?_)
  refine sY (yv_len_sl rfl Tryz.underlying30 rfl (lst_len _)) ?_
  refine nb tbk h0 fun x13 h0 => ?_
  refine tr tbk 1 (.mk ?_)
  cases x13
  replace h0 := cf h0
  refine tc tbk 13 (.mk ?_)
  obtain ⟨x14, e14, h0⟩ := bind_e h0
  refine sC cal25 (d_stock_Fetch_c e14) ?_
  refine tr tbk 5 (.mk ?_)
  refine sA 4 z50 fun v15 => ?_
  refine sS ⟨32, 10, true, true, v3, [(GState.av x14.1)]⟩ sh32 ?_
  refine sS ⟨50, 3, true, true, v15, [[int x14.2.1.Qty, int x14.2.1.Value, int x14.2.1.Profit]]⟩ sh50 ?_
  refine tr tbk 7 (.mk ?_)
  refine nb tbk h0 fun x16 h0 => ?_
  refine tr tbk 1 (.mk ?_)
  cases x16
  replace h0 := cf h0
  refine tc tbk 3 (.mk ?_)
  refine c_drawE [0, 0, 2, 0, 8, 24, 0, 64, 192, 504, 0, 1024, 4088, 0, 8192, 24576, 65528, 131064, 262142, 0, 524288, 0, 2097152, 6422520, 0, 16777216, 50331648, 132251640, 266469368, 536477688, 1073741822, 2147483647, 4294967295, 8589934591, 8589934591, 17179869183, 68719476735] (rl [(0, [1]), (1, [2]), (2, [2]), (3, [2]), (4, [2]), (6, [2]), (7, [2]), (10, [4]), (11, [4]), (13, [4]), (14, [4]), (19, [2]), (20, [2]), (21, [2]), (22, [2]), (24, [2]), (25, [2])] []) (rl [(35, [])] [1, 2, 4]) (rl [(35, false)] true) [0, 1, 2, 3, 4, 5, 6, 7, 8, 9, 10, 11, 12, 13, 14, 15, 16, 17, 18, 19, 20, 21, 22, 23, 24, 25, 26, 27, 28, 29, 30, 31, 32, 33, 34, 35, 36] mixed (by kernel_rfl) ?_; intro K hK
  refine eL sh32 ?_
  refine eF fo38_1 ?_
  refine eL sh3 ?_
  refine eF fo38_6 ?_
  refine eL sh3 ?_
  obtain ⟨x17, e17, h0⟩ := bind_e h0
  refine eP (fun H hH => yv_callP rfl rfl (.cons rfl (.cons rfl .nil)) cal83 (CvL.refl _) (d_ship_line_c e17)) ?_
  refine eF fo38_6 ?_
  refine eL sh3 ?_
  obtain ⟨x18, e18, h0⟩ := bnd_e h0
  refine eP (fun H hH => yv_neg rfl rfl e18) ?_
  obtain ⟨x19, e19, h0⟩ := bind_e h0
  refine eP (fun H hH => yv_callP rfl rfl (.cons rfl (.cons rfl .nil)) cal83 (CvL.refl _) (d_ship_line_c e19)) ?_
  refine eF fo50_1 ?_
  refine eL sh3 ?_
  obtain ⟨x20, e20, h0⟩ := bind_e h0
  refine eP (fun H hH => yv_callP rfl rfl (.cons rfl (.cons rfl .nil)) cal83 (CvL.refl _) (d_ship_line_c e20)) ?_
  refine eF fo50_1 ?_
  refine eL sh3 ?_
  obtain ⟨x21, e21, h0⟩ := bnd_e h0
  refine eP (fun H hH => yv_neg rfl rfl e21) ?_
  obtain ⟨x22, e22, h0⟩ := bind_e h0
  refine eP (fun H hH => yv_callP rfl rfl (.cons rfl (.cons rfl .nil)) cal83 (CvL.refl _) (d_ship_line_c e22)) ?_
  refine eP (fun H hH => yv_to (y := lst 2 GLine.av ([x17, x19, x20, x22] : List GLine)) (yv_buildSlice (ps := [(0, _), (1, _), (2, _), (3, _)]) (rows := [[int x17.Account, int x17.Amount], [int x19.Account, int x19.Amount], [int x20.Account, int x20.Amount], [int x22.Account, int x22.Amount]]) rfl Tryz.underlying82 bz81 (.cons rfl (.cons rfl (.cons rfl (.cons rfl .nil)))) (by kernel_rfl) rfl rfl rfl) rfl) ?_
  refine eP (fun H hH => yv_build (cs := [int a2.E, lst 2 GLine.av ([x17, x19, x20, x22] : List GLine)]) (ps := [(0, _), (1, _)]) rfl pl127 z127 rfl (.cons rfl (.cons rfl .nil)) (by kernel_rfl)) ?_
  refine eF fo38_4 ?_
  refine eL sh3 ?_
  refine eF fo38_6 ?_
  refine eL sh3 ?_
  obtain ⟨x23, e23, h0⟩ := bind_e h0
  refine eP (fun H hH => yv_callP rfl rfl (.cons rfl (.cons rfl .nil)) cal83 (CvL.refl _) (d_ship_line_c e23)) ?_
  refine eF fo38_6 ?_
  refine eL sh3 ?_
  obtain ⟨x24, e24, h0⟩ := bnd_e h0
  refine eP (fun H hH => yv_neg rfl rfl e24) ?_
  obtain ⟨x25, e25, h0⟩ := bind_e h0
  refine eP (fun H hH => yv_callP rfl rfl (.cons rfl (.cons rfl .nil)) cal83 (CvL.refl _) (d_ship_line_c e25)) ?_
  refine eP (fun H hH => yv_to (y := lst 2 GLine.av ([x23, x25] : List GLine)) (yv_buildSlice (ps := [(0, _), (1, _)]) (rows := [[int x23.Account, int x23.Amount], [int x25.Account, int x25.Amount]]) rfl Tryz.underlying82 bz81 (.cons rfl (.cons rfl .nil)) (by kernel_rfl) rfl rfl rfl) rfl) ?_
  refine eP (fun H hH => yv_build (cs := [int a2.To, lst 2 GLine.av ([x23, x25] : List GLine)]) (ps := [(0, _), (1, _)]) rfl pl127 z127 rfl (.cons rfl (.cons rfl .nil)) (by kernel_rfl)) ?_
  refine eP (fun H hH => yv_to (y := lst 2 Gentry.av ([(⟨a2.E, ([x17, x19, x20, x22] : List GLine)⟩ : Gentry), (⟨a2.To, ([x23, x25] : List GLine)⟩ : Gentry)] : List Gentry)) (yv_buildSlice (ps := [(0, _), (1, _)]) (rows := [[int a2.E, lst 2 GLine.av ([x17, x19, x20, x22] : List GLine)], [int a2.To, lst 2 GLine.av ([x23, x25] : List GLine)]]) rfl Tryz.underlying174 bz127 (.cons rfl (.cons rfl .nil)) (by kernel_rfl) rfl rfl rfl) rfl) ?_
  obtain ⟨x26, e26, h0⟩ := bind_e h0
  refine eP (fun H hH => yv_callP rfl rfl (.cons rfl (.cons rfl .nil)) cal82 (CvL.refl _) (d_ship_post_c e26)) ?_
  refine eM ?_
  iterate 2 refine eX ?_
  refine de_eff0 rfl rfl rfl rfl (Yield.weak (yl_ob (ob' := (⟨32, 10, true, true, v3, [(GState.av x26.1)]⟩ : AObj)) (yl_store rfl sh32 rfl rfl rfl rfl rfl rfl rfl rfl rfl) rfl) (fun _ h => h) (fun _ _ => trivial)) (by rintro _ _ ⟨rfl, rfl⟩; exact trivial) ?_; rintro _ _ ⟨rfl, rfl⟩
  refine eA ?_
  refine de_nil (hK _ ?_)
  refine tc tbk 4 (.mk ?_)
  refine nb tbk h0 fun x27 h0 => ?_
  refine tr tbk 1 (.mk ?_)
  cases x27
  replace h0 := cf h0
  refine tc tbk 12 (.mk ?_)
  refine sY (yv_build (cs := [int 0, int 0, int 0, int 0, int 0, int 0, int x14.2.1.Value, int 0, int 0, int 0, int 0]) (ps := [(6, _)]) rfl pl54 z54 rfl (.cons rfl .nil) (by kernel_rfl)) ?_
  obtain ⟨x28, e28, h0⟩ := bind_e h0
  refine sC cal84 (d_stock_Turn_c e28) ?_
  refine tr tbk 3 (.mk ?_)
  refine sS ⟨32, 10, true, true, v3, [(GState.av x28.1)]⟩ sh32 ?_
  refine tr tbk 5 (.mk ?_)
  refine nb tbk h0 fun x29 h0 => ?_
  refine tr tbk 1 (.mk ?_)
  cases x29
  replace h0 := cf h0
  refine tc tbk 8 (.mk ?_)
  refine ni tbk h0 fun x30 h0 => ?_
  refine tr tbk 2 (.mk ?_)
  refine ni tbk h0 fun x31 h0 => ?_
  refine tr tbk 4 (.mk ?_)
  refine jn h0 [2, 3, 4, 5, 12] [1, 2, 3] (fun (a : Bool) (k : Unit) => [(123, boo a)]) (fun a k => []) ⟨fun j32 h1 => ?_, ?_⟩
  refine tc tbk 2 (.mk ?_)
  refine nb tbk h1 fun x33 h1 => ?_
  refine tr tbk 1 (.mk ?_)
  cases x33
  replace h1 := cf h1
  refine tr tbk 1 (.mk ?_)
  refine nb tbk h1 fun x34 h1 => ?_
  refine tr tbk 2 (.mk ?_)
  exact lf h1 () leA
  replace h1 := ct h1
  refine tr tbk 4 (.mk ?_)
  exact lf h1 () leA
  rintro y2_1 _ h0
  cases y2_1
  replace h0 := cf h0
  refine tc tbk 3 (.mk ?_)
  refine c_drawE [0, 1, 3, 0, 8, 0, 32, 0, 128, 0, 512, 0, 2048, 0, 16376, 32760, 65535, 131071, 262143] (rl [(0, [1]), (1, [1]), (3, [2]), (4, [2]), (5, [2]), (6, [2]), (7, [2]), (8, [2]), (9, [2]), (10, [2]), (11, [2]), (12, [2]), (17, [1])] []) (rl [(2, [2]), (16, []), (18, [])] [1, 2]) (rl [(2, false), (16, false), (18, false)] true) [0, 1, 3, 4, 5, 6, 7, 8, 9, 10, 11, 12, 13, 14, 15, 2, 16, 17, 18] mixed (by kernel_rfl) ?_; intro K hK
  refine eF fo32_4 ?_
  refine eL sh30 ?_
  refine eF fo38_1 ?_
  refine eL sh3 ?_
  refine eF fo38_4 ?_
  refine eL sh3 ?_
  refine eF fo38_2 ?_
  refine eL sh3 ?_
  refine eF fo38_5 ?_
  refine eL sh3 ?_
  refine eF fo38_6 ?_
  refine eL sh3 ?_
  refine eM ?_
  refine eP (fun H hH => yv_build (cs := [int a2.E, int a2.To, int a2.Item, int a2.Qty, int a2.Amount, int x31]) (ps := [(0, _), (1, _), (2, _), (3, _), (4, _), (5, _)]) rfl pl56 z56 rfl (.cons rfl (.cons rfl (.cons rfl (.cons rfl (.cons rfl (.cons rfl .nil)))))) (by kernel_rfl)) ?_
  refine eP (fun H hH => yv_to (y := lst 6 GTransit.av ([(⟨a2.E, a2.To, a2.Item, a2.Qty, a2.Amount, x31⟩ : GTransit)] : List GTransit)) (yv_buildSlice (ps := [(0, _)]) (rows := [[int a2.E, int a2.To, int a2.Item, int a2.Qty, int a2.Amount, int x31]]) rfl Tryz.underlying30 bz56 (.cons rfl .nil) (by kernel_rfl) rfl rfl rfl) rfl) ?_
  obtain ⟨p35, h0⟩ := asrt_e h0
  refine de_eff rfl rfl rfl rfl (yl_call rfl rfl (.cons rfl .nil) cal85 (pc_cv (clone85_c (id := 5) (l := x28.1.Transits) rfl p35) (.cons (.refl _) .nil))) (by rintro _ _ ⟨v36, rfl, rfl⟩; exact ⟨rfl, trivial⟩) ?_; rintro _ _ ⟨v36, rfl, rfl⟩
  obtain ⟨x37, e37, h0⟩ := bnd_e h0
  obtain ⟨p38, h0⟩ := asrt_e h0
  refine de_eff rfl rfl rfl rfl (yl_appT (g := GTransit.av) (l := x28.1.Transits) (m := ([(⟨a2.E, a2.To, a2.Item, a2.Qty, a2.Amount, x31⟩ : GTransit)] : List GTransit)) .any rfl Tryz.underlying30 bz56 by56 rfl rfl rfl rfl rfl rfl rfl rfl rfl rfl (Eq.symm rfl) (.refl _) (fun _ => rfl) e37 p38) (by rintro _ _ ⟨v39, -, rfl, rfl⟩; exact trivial) ?_; rintro _ _ ⟨v39, -, rfl, rfl⟩
  refine eF fo32_4 ?_
  refine de_eff0 rfl rfl rfl rfl (Yield.weak (yl_ob (ob' := (⟨32, 10, true, true, v3, [[int x28.1.Master.Entities, int x28.1.Master.Periods, lst 1 fI x28.1.Master.Weights, lst 1 (fL 1 fI) x28.1.Master.Methods, lst 1 (fL 1 fI) x28.1.Master.Costs, lst 8 GEnt.av x28.1.Ents, lst 8 GReceipt.av x28.1.Receipts, lst 9 GSale.av x28.1.Sales, .sl 5 v39 0 x37.length, int x28.1.Done]]⟩ : AObj)) (yl_store rfl sh30 rfl rfl rfl rfl rfl rfl rfl rfl rfl) rfl) (fun _ h => h) (fun _ _ => trivial)) (by rintro _ _ ⟨rfl, rfl⟩; exact trivial) ?_; rintro _ _ ⟨rfl, rfl⟩
  refine de_nil (hK _ ?_)
  refine tc tbk 3 (.mk ?_)
  refine sS ⟨32, 10, true, true, v5, [[int x28.1.Master.Entities, int x28.1.Master.Periods, lst 1 fI x28.1.Master.Weights, lst 1 (fL 1 fI) x28.1.Master.Methods, lst 1 (fL 1 fI) x28.1.Master.Costs, lst 8 GEnt.av x28.1.Ents, lst 8 GReceipt.av x28.1.Receipts, lst 9 GSale.av x28.1.Sales, .sl 5 v39 0 x37.length, int x28.1.Done]]⟩ sh32 ?_
  refine tr tbk 2 (.mk ?_)
  obtain rfl := nxt_e h0
  refine wR hret (rC sh32 (rT .nil)) ?_
  exact CvL.tup (.cons (CvL.agg (.cons (.refl _) (.cons (.refl _) (.cons (.refl _) (.cons (.refl _) (.cons (.refl _) (.cons (.refl _) (.cons (.refl _) (.cons (.refl _) (.cons (cv_lst rfl rfl rfl rfl rfl (Eq.symm rfl)) (.cons (.refl _) .nil))))))))))) (.cons (.refl _) .nil))
  replace h0 := ct h0
  refine tc tbk 4 (.mk ?_)
  refine sS ⟨32, 10, true, true, v5, [(GState.av x28.1)]⟩ sh32 ?_
  refine tr tbk 2 (.mk ?_)
  obtain rfl := nxt_e h0
  refine wR hret (rC sh32 (rT .nil)) ?_
  exact .refl _
  replace h0 := ct h0
  refine tc tbk 5 (.mk ?_)
  refine sS ⟨32, 10, true, true, v5, [(GState.av x28.1)]⟩ sh32 ?_
  refine tr tbk 2 (.mk ?_)
  obtain rfl := nxt_e h0
  refine wR hret (rC sh32 (rT .nil)) ?_
  exact .refl _
  replace h0 := ct h0
  refine tc tbk 5 (.mk ?_)
  refine sS ⟨32, 10, true, true, v5, [(GState.av x26.1)]⟩ sh32 ?_
  refine tr tbk 2 (.mk ?_)
  obtain rfl := nxt_e h0
  refine wR hret (rC sh32 (rT .nil)) ?_
  exact .refl _
  replace h0 := ct h0
  refine tc tbk 5 (.mk ?_)
  refine sS ⟨32, 10, true, true, v5, [(GState.av x14.1)]⟩ sh32 ?_
  refine tr tbk 2 (.mk ?_)
  obtain rfl := nxt_e h0
  refine wR hret (rC sh32 (rT .nil)) ?_
  exact .refl _
  replace h0 := ct h0
  refine tc tbk 4 (.mk ?_)
  refine sS ⟨32, 10, true, true, v5, [(GState.av a1)]⟩ sh32 ?_
  refine tr tbk 2 (.mk ?_)
  obtain rfl := nxt_e h0
  refine wR hret (rC sh32 (rT .nil)) ?_
  exact .refl _
def d_ship_Do (n : Nat) (a1 : GState) (a2 : GOp) : Option (GState × Int) :=
(show Option (Int × GState) from
bnd (decide (a2.Kind = 12)) fun x8 =>
cond x8 ((d_ship_ship n a1 a2).bind fun x11 =>
some ((x11.2 : Int), (x11.1 : GState))) (bnd (decide (a2.Kind = 13)) fun x9 =>
cond x9 ((d_ship_arrive n a1 a2).bind fun x10 =>
some ((x10.2 : Int), (x10.1 : GState))) (some ((1 : Int), (a1 : GState))))).bind <| p2 fun (y0_1 : Int) (y0_2 : GState) =>
bnd (decide (y0_1 ≠ 0)) fun x12 =>
cond x12 (some ((a1 : GState), (y0_1 : Int))) (some ((y0_2 : GState), (0 : Int)))
theorem d_ship_Do_c {n : Nat} {a1 : GState} {a2 : GOp} {r : GState × Int} (h0 : d_ship_Do n a1 a2 = some r) : PP Tryz.prog 17 [.agg (GState.av a1), .agg (GOp.av a2)] (fun y => y = .tup [.agg (GState.av r.1), int r.2]) := by
  unfold d_ship_Do at h0
  refine pp_of_pc (R0 := fun y H => Cv (frzH H) y (.tup [.agg (GState.av r.1), int r.2])) ?_ (fun y H hc => ⟨_, rfl, .tup (pvl2 ((fun (a : GState) => PV.agg (GState.pvc a)) (r.1)) (pvI (r.2))), hc⟩)
  refine pcw (c := _) Tryz.func17 rfl rfl ?_; intro Q hret hnorm
  refine tc tbk 2 (.mk ?_)
  refine sB 1 fun v3 => ?_
  refine sB 2 fun v4 => ?_
  refine sA 3 z32 fun v5 => ?_
  refine tr tbk 5 (.mk ?_)
  refine sA 4 z32 fun v6 => ?_
  refine sS ⟨32, 10, true, true, v6, [(GState.av a1)]⟩ sh32 ?_
  refine tr tbk 8 (.mk ?_)
  refine jn h0 [2, 4, 5, 6] [1, 3] (fun (a : Int × GState) (k : Unit) => [(7, int a.1)]) (fun a k => [(4, ⟨32, 10, true, true, v6, [(GState.av a.2)]⟩)]) ⟨fun j7 h1 => ?_, ?_⟩
  refine tc tbk 3 (.mk ?_)
  refine nb tbk h1 fun x8 h1 => ?_
  refine tr tbk 2 (.mk ?_)
  cases x8
  replace h1 := cf h1
  refine tc tbk 3 (.mk ?_)
  refine nb tbk h1 fun x9 h1 => ?_
  refine tr tbk 2 (.mk ?_)
  cases x9
  replace h1 := cf h1
  refine tc tbk 3 (.mk ?_)
  exact lf h1 () leA
  replace h1 := ct h1
  refine tc tbk 4 (.mk ?_)
  obtain ⟨x10, e10, h1⟩ := bind_e h1
  refine sC cal41 (d_ship_arrive_c e10) ?_
  refine tr tbk 3 (.mk ?_)
  refine sS ⟨32, 10, true, true, v6, [(GState.av x10.1)]⟩ sh32 ?_
  refine tr tbk 3 (.mk ?_)
  exact lf h1 () leA
  replace h1 := ct h1
  refine tc tbk 4 (.mk ?_)
  obtain ⟨x11, e11, h1⟩ := bind_e h1
  refine sC cal40 (d_ship_ship_c e11) ?_
  refine tr tbk 3 (.mk ?_)
  refine sS ⟨32, 10, true, true, v6, [(GState.av x11.1)]⟩ sh32 ?_
  refine tr tbk 3 (.mk ?_)
  exact lf h1 () leA
  rintro ⟨y0_1, y0_2⟩ _ h0
  replace h0 := p2_e h0
  refine tc tbk 4 (.mk ?_)
  refine nb tbk h0 fun x12 h0 => ?_
  refine tr tbk 1 (.mk ?_)
  cases x12
  replace h0 := cf h0
  refine tc tbk 5 (.mk ?_)
  refine sS ⟨32, 10, true, true, v5, [(GState.av y0_2)]⟩ sh32 ?_
  refine tr tbk 2 (.mk ?_)
  obtain rfl := nxt_e h0
  refine wR hret (rC sh32 (rT .nil)) ?_
  exact .refl _
  replace h0 := ct h0
  refine tc tbk 5 (.mk ?_)
  refine sS ⟨32, 10, true, true, v5, [(GState.av a1)]⟩ sh32 ?_
  refine tr tbk 2 (.mk ?_)
  obtain rfl := nxt_e h0
  refine wR hret (rC sh32 (rT .nil)) ?_
  exact .refl _
def d_ref14_Worth (n : Nat) (a1 : GState) (a2 : Int) (a3 : Int) : Option (GLayer) :=
(d_ref14_worth n a1 a2 a3).bind fun x6 =>
some ((x6.1 : GLayer))
theorem d_ref14_Worth_c {n : Nat} {a1 : GState} {a2 : Int} {a3 : Int} {r : GLayer} (h0 : d_ref14_Worth n a1 a2 a3 = some r) : PP Tryz.prog 15 [.agg (GState.av a1), int a2, int a3] (fun y => y = .agg (GLayer.av r)) := by
  unfold d_ref14_Worth at h0
  refine pp_of_pc (R0 := fun y H => Cv (frzH H) y (.agg (GLayer.av r))) ?_ (fun y H hc => ⟨_, rfl, (fun (a : GLayer) => PV.agg (GLayer.pvc a)) r, hc⟩)
  refine pcw (c := _) Tryz.func15 rfl rfl ?_; intro Q hret hnorm
  refine tc tbk 2 (.mk ?_)
  refine sB 1 fun v4 => ?_
  refine sA 2 z50 fun v5 => ?_
  refine tr tbk 6 (.mk ?_)
  obtain ⟨x6, e6, h0⟩ := bind_e h0
  refine sC cal35 (d_ref14_worth_c e6) ?_
  refine tr tbk 3 (.mk ?_)
  refine sA 3 z50 fun v7 => ?_
  refine sS ⟨50, 3, true, true, v7, [[int x6.1.Qty, int x6.1.Value, int x6.1.Profit]]⟩ sh50 ?_
  refine tr tbk 5 (.mk ?_)
  refine sS ⟨50, 3, true, true, v5, [[int x6.1.Qty, int x6.1.Value, int x6.1.Profit]]⟩ sh50 ?_
  refine tr tbk 1 (.mk ?_)
  obtain rfl := nxt_e h0
  refine wR hret (rC sh50 .nil) ?_
  exact .refl _
def d_law20_all_L1 (a1 : GState) (y0_2 : Int) : Nat → Int → Int → Option (Int)
  | 0, _, _ => none
  | n + 1, y1_1, y1_2 =>
    bnd (decide (y1_2 < (a1.Master.Weights.length : Int))) fun x7 =>
    cond x7 ((d_ref14_Worth n a1 y0_2 y1_2).bind fun x8 =>
    bnd (w64 (y1_1 + x8.Profit)) fun x9 =>
    bnd (w64 (y1_2 + 1)) fun x10 =>
    d_law20_all_L1 a1 y0_2 n (x9 : Int) (x10 : Int)) (some (y1_1 : Int))
def d_law20_all_L0 (a1 : GState) : Nat → Int → Int → Option (Int)
  | 0, _, _ => none
  | n + 1, y0_1, y0_2 =>
    bnd (decide (y0_2 < (a1.Ents.length : Int))) fun x4 =>
    cond x4 ((show Option (Int) from
    (show Option (Int) from
    d_law20_all_L1 a1 y0_2 n (y0_1 : Int) (0 : Int)).bind <| fun y2_1 =>
    some (y2_1 : Int)).bind <| fun y3_1 =>
    bnd (w64 (y0_2 + 1)) fun x11 =>
    d_law20_all_L0 a1 n (y3_1 : Int) (x11 : Int)) (some (y0_1 : Int))
def d_law20_all_L2 (a1 : GState) : Nat → Int → Int → Option (Int)
  | 0, _, _ => none
  | n + 1, y5_1, y5_2 =>
    bnd (decide (y5_2 < (a1.Transits.length : Int))) fun x13 =>
    cond x13 ((ix a1.Transits y5_2).bind fun x14 =>
    bnd (w64 (y5_1 + x14.Profit)) fun x16 =>
    bnd (w64 (y5_2 + 1)) fun x17 =>
    d_law20_all_L2 a1 n (x16 : Int) (x17 : Int)) (some (y5_1 : Int))
def d_law20_all (n : Nat) (a1 : GState) : Option (Int) :=
(show Option (Int) from
d_law20_all_L0 a1 n (0 : Int) (0 : Int)).bind <| fun y4_1 =>
(show Option (Int) from
d_law20_all_L2 a1 n (y4_1 : Int) (0 : Int)).bind <| fun y6_1 =>
some ((y6_1 : Int))
theorem d_law20_all_c {n : Nat} {a1 : GState} {r : Int} (h0 : d_law20_all n a1 = some r) : PP Tryz.prog 20 [.agg (GState.av a1)] (fun y => y = int r) := by
  unfold d_law20_all at h0
  refine pp_of_pc (R0 := fun y H => Cv (frzH H) y (int r)) ?_ (fun y H hc => ⟨_, rfl, pvI r, hc⟩)
  refine pcw (c := _) Tryz.func20 rfl rfl ?_; intro Q hret hnorm
  refine tc tbk 2 (.mk ?_)
  refine sB 1 fun v2 => ?_
  refine tr tbk 11 (.mk ?_)
  refine sY (yv_len_sl rfl Tryz.underlying27 rfl (lst_len _)) ?_
  refine tr tbk 2 (.mk ?_)
  refine jn h0 [1, 2] [1] (fun (a : Int) (k : Unit) => [(3, int a)]) (fun a k => []) ⟨fun j3 h1 => ?_, ?_⟩
  refine tc tbk 1 (.mk ?_)
  refine lp (fun n (a : Int × Int) => d_law20_all_L0 a1 n a.1 a.2) ((0 : Int), (0 : Int)) () h1 [1, 2, 10] [1] (fun (a : Int × Int) (k : Unit) => [(3, int a.1), (11, int a.2)]) (fun a k => []) (fun _ => rfl) ⟨leA, ?_⟩
  rintro n ⟨y0_1, y0_2⟩ _ hm h1
  replace h1 : d_law20_all_L0 a1 (n + 1) y0_1 y0_2 = some _ := h1
  rw [d_law20_all_L0] at h1
  refine tc tbk 2 (.mk ?_)
  refine nb tbk h1 fun x4 h1 => ?_
  refine tr tbk 2 (.mk ?_)
  cases x4
  replace h1 := cf h1
  refine tc tbk 2 (.mk ?_)
  exact lf h1 () leA
  replace h1 := ct h1
  refine tc tbk 3 (.mk ?_)
  refine jn h1 [1, 2, 10, 11] [1] (fun (a : Int) (k : Unit) => [(3, int a)]) (fun a k => []) ⟨fun j5 h2 => ?_, ?_⟩
  refine tc tbk 11 (.mk ?_)
  refine sY (yv_len_sl rfl Tryz.underlying23 rfl (lst_len _)) ?_
  refine tr tbk 2 (.mk ?_)
  refine jn h2 [1, 2, 10, 11] [1] (fun (a : Int) (k : Unit) => [(3, int a)]) (fun a k => []) ⟨fun j6 h3 => ?_, ?_⟩
  refine tc tbk 1 (.mk ?_)
  refine lp (fun n (a : Int × Int) => d_law20_all_L1 a1 y0_2 n a.1 a.2) ((y0_1 : Int), (0 : Int)) () h3 [1, 2, 4, 10, 11, 17] [1] (fun (a : Int × Int) (k : Unit) => [(3, int a.1), (18, int a.2)]) (fun a k => []) (fun _ => rfl) ⟨leA, ?_⟩
  rintro n ⟨y1_1, y1_2⟩ _ hm h3
  replace h3 : d_law20_all_L1 a1 y0_2 (n + 1) y1_1 y1_2 = some _ := h3
  rw [d_law20_all_L1] at h3
  refine tc tbk 2 (.mk ?_)
  refine nb tbk h3 fun x7 h3 => ?_
  refine tr tbk 2 (.mk ?_)
  cases x7
  replace h3 := cf h3
  refine tc tbk 2 (.mk ?_)
  exact lf h3 () leA
  replace h3 := ct h3
  refine tc tbk 14 (.mk ?_)
  obtain ⟨x8, e8, h3⟩ := bind_e h3
  refine sC cal15 (d_ref14_Worth_c e8) ?_
  refine tr tbk 1 (.mk ?_)
  refine ni tbk h3 fun x9 h3 => ?_
  refine tr tbk 4 (.mk ?_)
  refine ni tbk h3 fun x10 h3 => ?_
  refine tr tbk 2 (.mk ?_)
  exact bk (x9, x10) () h3 leA
  rintro y2_1 _ h2
  refine tc tbk 1 (.mk ?_)
  exact lf h2 () leA
  rintro y3_1 _ h1
  refine tc tbk 1 (.mk ?_)
  refine ni tbk h1 fun x11 h1 => ?_
  refine tr tbk 2 (.mk ?_)
  exact bk (y3_1, x11) () h1 leA
  rintro y4_1 _ h0
  refine tc tbk 5 (.mk ?_)
  refine sY (yv_len_sl rfl Tryz.underlying30 rfl (lst_len _)) ?_
  refine tr tbk 2 (.mk ?_)
  refine jn h0 [2] [] (fun (a : Int) (k : Unit) => [(3, int a)]) (fun a k => []) ⟨fun j12 h1 => ?_, ?_⟩
  refine tc tbk 1 (.mk ?_)
  refine lp (fun n (a : Int × Int) => d_law20_all_L2 a1 n a.1 a.2) ((y4_1 : Int), (0 : Int)) () h1 [2, 31, 32] [] (fun (a : Int × Int) (k : Unit) => [(3, int a.1), (33, int a.2)]) (fun a k => []) (fun _ => rfl) ⟨leA, ?_⟩
  rintro n ⟨y5_1, y5_2⟩ _ hm h1
  replace h1 : d_law20_all_L2 a1 (n + 1) y5_1 y5_2 = some _ := h1
  rw [d_law20_all_L2] at h1
  refine tc tbk 2 (.mk ?_)
  refine nb tbk h1 fun x13 h1 => ?_
  refine tr tbk 2 (.mk ?_)
  cases x13
  replace h1 := cf h1
  refine tc tbk 2 (.mk ?_)
  exact lf h1 () leA
  replace h1 := ct h1
  refine tc tbk 6 (.mk ?_)
  obtain ⟨x14, e14, h1⟩ := bind_e h1
  refine sY (yv_ixT rfl Tryz.underlying30 sh56 rfl rfl e14) ?_
  refine tr tbk 1 (.mk ?_)
  refine sA 2 z56 fun v15 => ?_
  refine sS ⟨56, 6, true, true, v15, [[int x14.From, int x14.To, int x14.Item, int x14.Qty, int x14.Value, int x14.Profit]]⟩ sh56 ?_
  refine tr tbk 5 (.mk ?_)
  refine ni tbk h1 fun x16 h1 => ?_
  refine tr tbk 4 (.mk ?_)
  refine ni tbk h1 fun x17 h1 => ?_
  refine tr tbk 2 (.mk ?_)
  exact bk (x16, x17) () h1 leA
  rintro y6_1 _ h0
  refine tc tbk 5 (.mk ?_)
  obtain rfl := nxt_e h0
  refine wR hret (rT .nil) ?_
  exact .refl _
def d_ref24_Mutual_L0 (a1 : GState) : Nat → Int → Int → Option (Int)
  | 0, _, _ => none
  | n + 1, y0_1, y0_2 =>
    bnd (decide (y0_2 < (a1.Ents.length : Int))) fun x4 =>
    cond x4 ((ix a1.Ents y0_2).bind fun x5 =>
    (ix x5.Bal 13).bind fun x6 =>
    bnd (w64 (y0_1 + x6)) fun x7 =>
    (ix a1.Ents y0_2).bind fun x8 =>
    (ix x8.Bal 14).bind fun x9 =>
    bnd (w64 (x7 + x9)) fun x10 =>
    bnd (w64 (y0_2 + 1)) fun x11 =>
    d_ref24_Mutual_L0 a1 n (x10 : Int) (x11 : Int)) (some (y0_1 : Int))
def d_ref24_Mutual (n : Nat) (a1 : GState) : Option (Bool) :=
(show Option (Int) from
d_ref24_Mutual_L0 a1 n (0 : Int) (0 : Int)).bind <| fun y1_1 =>
bnd (decide (y1_1 = 0)) fun x12 =>
some ((x12 : Bool))
theorem d_ref24_Mutual_c {n : Nat} {a1 : GState} {r : Bool} (h0 : d_ref24_Mutual n a1 = some r) : PP Tryz.prog 21 [.agg (GState.av a1)] (fun y => y = boo r) := by
  unfold d_ref24_Mutual at h0
  refine pp_of_pc (R0 := fun y H => Cv (frzH H) y (boo r)) ?_ (fun y H hc => ⟨_, rfl, pvB r, hc⟩)
  refine pcw (c := _) Tryz.func21 rfl rfl ?_; intro Q hret hnorm
  refine tc tbk 2 (.mk ?_)
  refine sB 1 fun v2 => ?_
  refine tr tbk 11 (.mk ?_)
  refine jn h0 [2] [] (fun (a : Int) (k : Unit) => [(3, int a)]) (fun a k => []) ⟨fun j3 h1 => ?_, ?_⟩
  refine tc tbk 1 (.mk ?_)
  refine lp (fun n (a : Int × Int) => d_ref24_Mutual_L0 a1 n a.1 a.2) ((0 : Int), (0 : Int)) () h1 [1, 2] [1] (fun (a : Int × Int) (k : Unit) => [(3, int a.1), (4, int a.2)]) (fun a k => []) (fun _ => rfl) ⟨leA, ?_⟩
  rintro n ⟨y0_1, y0_2⟩ _ hm h1
  replace h1 : d_ref24_Mutual_L0 a1 (n + 1) y0_1 y0_2 = some _ := h1
  rw [d_ref24_Mutual_L0] at h1
  refine tc tbk 6 (.mk ?_)
  refine sY (yv_len_sl rfl Tryz.underlying27 rfl (lst_len _)) ?_
  refine nb tbk h1 fun x4 h1 => ?_
  refine tr tbk 1 (.mk ?_)
  cases x4
  replace h1 := cf h1
  refine tc tbk 2 (.mk ?_)
  exact lf h1 () leA
  replace h1 := ct h1
  refine tc tbk 4 (.mk ?_)
  refine c_drawE [0, 0, 2, 0, 14, 30, 62, 126, 254, 511, 0, 1024, 0, 7168, 15360, 31744, 64512, 130048, 262143, 524287] (rl [(1, [1]), (2, [1]), (10, [1]), (11, [1])] []) (fun i => [1]) (fun i => true) [0, 1, 2, 3, 4, 5, 6, 7, 8, 9, 10, 11, 12, 13, 14, 15, 16, 17, 18, 19] mixed (by kernel_rfl) ?_; intro K hK
  refine eM ?_
  refine eF fo32_1 ?_
  refine eL sh27 ?_
  refine eM ?_
  obtain ⟨x5, e5, h1⟩ := bind_e h1
  refine eP (fun H hH => yv_to (y := .pp [int x5.Now, boo x5.Closed, lst 4 GPool.av x5.Pools, lst 1 fI x5.Bal, lst 11 GRoll.av x5.Rolls, lst 1 fI x5.Prices, lst 1 fI x5.Down, lst 8 GEnt.av x5.Ahead]) (yv_ixT rfl Tryz.underlying27 sh47 rfl rfl e5) (congrArg AV.pp (GEnt.av_eq x5))) ?_
  refine eP (fun H hH => yv_fieldAddr rfl fo47_3 rfl (.pp _) (.pp _ _)) ?_
  refine eP (fun H hH => yv_load rfl sh23 rfl (.pp _) rfl) ?_
  obtain ⟨x6, e6, h1⟩ := bind_e h1
  refine eP (fun H hH => yv_ixT rfl Tryz.underlying23 sh3 rfl rfl e6) ?_
  refine eP (fun H hH => yv_load rfl sh3 rfl (.pp _) rfl) ?_
  obtain ⟨x7, e7, h1⟩ := bnd_e h1
  refine eP (fun H hH => yv_add rfl rfl rfl e7) ?_
  refine eF fo32_1 ?_
  refine eL sh27 ?_
  refine eM ?_
  obtain ⟨x8, e8, h1⟩ := bind_e h1
  refine eP (fun H hH => yv_to (y := .pp [int x8.Now, boo x8.Closed, lst 4 GPool.av x8.Pools, lst 1 fI x8.Bal, lst 11 GRoll.av x8.Rolls, lst 1 fI x8.Prices, lst 1 fI x8.Down, lst 8 GEnt.av x8.Ahead]) (yv_ixT rfl Tryz.underlying27 sh47 rfl rfl e8) (congrArg AV.pp (GEnt.av_eq x8))) ?_
  refine eP (fun H hH => yv_fieldAddr rfl fo47_3 rfl (.pp _) (.pp _ _)) ?_
  refine eP (fun H hH => yv_load rfl sh23 rfl (.pp _) rfl) ?_
  obtain ⟨x9, e9, h1⟩ := bind_e h1
  refine eP (fun H hH => yv_ixT rfl Tryz.underlying23 sh3 rfl rfl e9) ?_
  refine eP (fun H hH => yv_load rfl sh3 rfl (.pp _) rfl) ?_
  obtain ⟨x10, e10, h1⟩ := bnd_e h1
  refine eP (fun H hH => yv_add rfl rfl rfl e10) ?_
  refine eA ?_
  refine de_nil (hK _ ?_)
  refine tc tbk 3 (.mk ?_)
  refine ni tbk h1 fun x11 h1 => ?_
  refine tr tbk 2 (.mk ?_)
  exact bk (x10, x11) () h1 leA
  rintro y1_1 _ h0
  refine tc tbk 3 (.mk ?_)
  refine nb tbk h0 fun x12 h0 => ?_
  refine tr tbk 2 (.mk ?_)
  obtain rfl := nxt_e h0
  refine wR hret (rT .nil) ?_
  exact .refl _
def d_law20_awake (n : Nat)  : Option (Bool) :=
(d_law20_stocked n 1 3 30).bind fun x1 =>
(d_ship_Do n x1 (⟨12, 0, 1, 0, 1, 3, 50, 0, []⟩ : GOp)).bind fun x2 =>
(d_ship_Do n x2.1 (⟨13, 0, 0, 1, 0, 3, 0, 0, []⟩ : GOp)).bind fun x4 =>
(d_ship_Do n x4.1 (⟨13, 0, 0, 0, 0, 1, 0, 0, []⟩ : GOp)).bind fun x6 =>
(show Option (Bool) from
bnd (decide (x2.2 = 0)) fun x9 =>
cond x9 (bnd (decide ((x2.1.Transits.length : Int) = 1)) fun x10 =>
cond x10 ((ix x2.1.Transits 0).bind fun x11 =>
bnd (decide (x11.Profit = 20)) fun x12 =>
cond x12 (bnd (decide (x4.2 = 0)) fun x13 =>
cond x13 ((d_ref14_Worth n x4.1 1 1).bind fun x14 =>
bnd (decide (x14.Profit = 20)) fun x15 =>
cond x15 (bnd (decide (x6.2 = 5)) fun x16 =>
cond x16 (bnd (decide ((x4.1.Ents.length : Int) = 2)) fun x17 =>
cond x17 ((ix x4.1.Ents 1).bind fun x18 =>
(ix x18.Bal 12).bind fun x19 =>
bnd (decide (x19 = 0)) fun x20 =>
some (x20 : Bool)) (some (false : Bool))) (some (false : Bool))) (some (false : Bool))) (some (false : Bool))) (some (false : Bool))) (some (false : Bool))) (some (false : Bool))).bind <| fun y0_1 =>
some ((y0_1 : Bool))
theorem d_law20_awake_c {n : Nat}  {r : Bool} (h0 : d_law20_awake n  = some r) : PP Tryz.prog 19 [] (fun y => y = boo r) := by
  unfold d_law20_awake at h0
  refine pp_of_pc (R0 := fun y H => Cv (frzH H) y (boo r)) ?_ (fun y H hc => ⟨_, rfl, pvB r, hc⟩)
  refine pcw (c := _) Tryz.func19 rfl rfl ?_; intro Q hret hnorm
  refine tc tbk 6 (.mk ?_)
  obtain ⟨x1, e1, h0⟩ := bind_e h0
  refine sC cal18 (d_law20_stocked_c e1) ?_
  refine sY (yv_build (cs := [int 12, int 0, int 1, int 0, int 1, int 3, int 50, int 0, .sc (.slice none 0 0)]) (ps := [(0, _), (2, _), (4, _), (5, _), (6, _)]) rfl pl38 z38 rfl (.cons rfl (.cons rfl (.cons rfl (.cons rfl (.cons rfl .nil))))) (by kernel_rfl)) ?_
  obtain ⟨x2, e2, h0⟩ := bind_e h0
  refine sY (yv_callP rfl rfl (.cons rfl (.cons rfl .nil)) cal17 (.cons (.refl _) (.cons (CvL.agg (.cons (.refl _) (.cons (.refl _) (.cons (.refl _) (.cons (.refl _) (.cons (.refl _) (.cons (.refl _) (.cons (.refl _) (.cons (.refl _) (.cons (.nil _) .nil)))))))))) .nil)) (d_ship_Do_c e2)) ?_
  refine tr tbk 3 (.mk ?_)
  refine sA 1 z32 fun v3 => ?_
  refine sS ⟨32, 10, true, true, v3, [(GState.av x2.1)]⟩ sh32 ?_
  refine tr tbk 5 (.mk ?_)
  refine sY (yv_build (cs := [int 13, int 0, int 0, int 1, int 0, int 3, int 0, int 0, .sc (.slice none 0 0)]) (ps := [(0, _), (3, _), (5, _)]) rfl pl38 z38 rfl (.cons rfl (.cons rfl (.cons rfl .nil))) (by kernel_rfl)) ?_
  obtain ⟨x4, e4, h0⟩ := bind_e h0
  refine sY (yv_callP rfl rfl (.cons rfl (.cons rfl .nil)) cal17 (.cons (.refl _) (.cons (CvL.agg (.cons (.refl _) (.cons (.refl _) (.cons (.refl _) (.cons (.refl _) (.cons (.refl _) (.cons (.refl _) (.cons (.refl _) (.cons (.refl _) (.cons (.nil _) .nil)))))))))) .nil)) (d_ship_Do_c e4)) ?_
  refine tr tbk 3 (.mk ?_)
  refine sA 2 z32 fun v5 => ?_
  refine sS ⟨32, 10, true, true, v5, [(GState.av x4.1)]⟩ sh32 ?_
  refine tr tbk 5 (.mk ?_)
  refine sY (yv_build (cs := [int 13, int 0, int 0, int 0, int 0, int 1, int 0, int 0, .sc (.slice none 0 0)]) (ps := [(0, _), (5, _)]) rfl pl38 z38 rfl (.cons rfl (.cons rfl .nil)) (by kernel_rfl)) ?_
  obtain ⟨x6, e6, h0⟩ := bind_e h0
  refine sY (yv_callP rfl rfl (.cons rfl (.cons rfl .nil)) cal17 (.cons (.refl _) (.cons (CvL.agg (.cons (.refl _) (.cons (.refl _) (.cons (.refl _) (.cons (.refl _) (.cons (.refl _) (.cons (.refl _) (.cons (.refl _) (.cons (.refl _) (.cons (.nil _) .nil)))))))))) .nil)) (d_ship_Do_c e6)) ?_
  refine tr tbk 3 (.mk ?_)
  refine sA 3 z32 fun v7 => ?_
  refine sS ⟨32, 10, true, true, v7, [(GState.av x6.1)]⟩ sh32 ?_
  refine tr tbk 3 (.mk ?_)
  refine jn h0 [] [] (fun (a : Bool) (k : Unit) => [(0, boo a)]) (fun a k => []) ⟨fun j8 h1 => ?_, ?_⟩
  refine tc tbk 2 (.mk ?_)
  refine nb tbk h1 fun x9 h1 => ?_
  refine tr tbk 1 (.mk ?_)
  cases x9
  replace h1 := cf h1
  refine tr tbk 45 (.mk ?_)
  exact lf h1 () leA
  replace h1 := ct h1
  refine tr tbk 2 (.mk ?_)
  refine sY (yv_len_sl rfl Tryz.underlying30 rfl (lst_len _)) ?_
  refine nb tbk h1 fun x10 h1 => ?_
  refine tr tbk 2 (.mk ?_)
  cases x10
  replace h1 := cf h1
  refine tr tbk 39 (.mk ?_)
  exact lf h1 () leA
  replace h1 := ct h1
  refine tr tbk 2 (.mk ?_)
  obtain ⟨x11, e11, h1⟩ := bind_e h1
  refine sY (yv_ixT rfl Tryz.underlying30 sh56 rfl rfl e11) ?_
  refine tr tbk 2 (.mk ?_)
  refine nb tbk h1 fun x12 h1 => ?_
  refine tr tbk 2 (.mk ?_)
  cases x12
  replace h1 := cf h1
  refine tr tbk 31 (.mk ?_)
  exact lf h1 () leA
  replace h1 := ct h1
  refine tr tbk 1 (.mk ?_)
  refine nb tbk h1 fun x13 h1 => ?_
  refine tr tbk 2 (.mk ?_)
  cases x13
  replace h1 := cf h1
  refine tr tbk 27 (.mk ?_)
  exact lf h1 () leA
  replace h1 := ct h1
  refine tr tbk 1 (.mk ?_)
  obtain ⟨x14, e14, h1⟩ := bind_e h1
  refine sC cal15 (d_ref14_Worth_c e14) ?_
  refine tr tbk 1 (.mk ?_)
  refine nb tbk h1 fun x15 h1 => ?_
  refine tr tbk 2 (.mk ?_)
  cases x15
  replace h1 := cf h1
  refine tr tbk 21 (.mk ?_)
  exact lf h1 () leA
  replace h1 := ct h1
  refine tr tbk 1 (.mk ?_)
  refine nb tbk h1 fun x16 h1 => ?_
  refine tr tbk 2 (.mk ?_)
  cases x16
  replace h1 := cf h1
  refine tr tbk 17 (.mk ?_)
  exact lf h1 () leA
  replace h1 := ct h1
  refine tr tbk 2 (.mk ?_)
  refine sY (yv_len_sl rfl Tryz.underlying27 rfl (lst_len _)) ?_
  refine nb tbk h1 fun x17 h1 => ?_
  refine tr tbk 2 (.mk ?_)
  cases x17
  replace h1 := cf h1
  refine tr tbk 11 (.mk ?_)
  exact lf h1 () leA
  replace h1 := ct h1
  refine tr tbk 2 (.mk ?_)
  obtain ⟨x18, e18, h1⟩ := bind_e h1
  refine sY (yv_to (y := .pp [int x18.Now, boo x18.Closed, lst 4 GPool.av x18.Pools, lst 1 fI x18.Bal, lst 11 GRoll.av x18.Rolls, lst 1 fI x18.Prices, lst 1 fI x18.Down, lst 8 GEnt.av x18.Ahead]) (yv_ixT rfl Tryz.underlying27 sh47 rfl rfl e18) (congrArg AV.pp (GEnt.av_eq x18))) ?_
  refine tr tbk 2 (.mk ?_)
  obtain ⟨x19, e19, h1⟩ := bind_e h1
  refine sY (yv_ixT rfl Tryz.underlying23 sh3 rfl rfl e19) ?_
  refine tr tbk 1 (.mk ?_)
  refine nb tbk h1 fun x20 h1 => ?_
  refine tr tbk 3 (.mk ?_)
  exact lf h1 () leA
  rintro y0_1 _ h0
  obtain rfl := nxt_e h0
  refine wR hret (rT .nil) ?_
  exact .refl _
def d_law20_ShipChains_L1 (a3 : List Int) (y0_3 : Int) (x29 : Int) : Nat → Int → Int → GState → Option ((Int × GState) ⊕ ((Int × Int × GState) ⊕ ((GState) ⊕ (Bool))))
  | 0, _, _, _ => none
  | n + 1, y3_1, y3_2, y3_3 =>
    (show Option (Bool) from
    bnd (decide (y3_1 > 0)) fun x32 =>
    cond x32 (bnd (decide (y3_2 < 5)) fun x33 =>
    some (x33 : Bool)) (some (false : Bool))).bind <| fun y4_1 =>
    cond y4_1 ((show Option (Bool) from
    bnd (decide (y3_2 < 4)) fun x35 =>
    cond x35 (bnd (w64 (y0_3 * 4)) fun x36 =>
    bnd (w64 (x36 + y3_2)) fun x37 =>
    bnd (decide (x37 < (a3.length : Int))) fun x38 =>
    some (x38 : Bool)) (some (false : Bool))).bind <| fun y7_1 =>
    (show Option (Int) from
    cond y7_1 (bnd (w64 (y0_3 * 4)) fun x40 =>
    bnd (w64 (x40 + y3_2)) fun x41 =>
    (ix a3 x41).bind fun x42 =>
    (d_law00_Place x42 y3_1).bind fun x43 =>
    bnd (w64 (1 + x43)) fun x44 =>
    some (x44 : Int)) (some (y3_1 : Int))).bind <| fun y5_1 =>
    (d_ship_Do n y3_3 (⟨13, 0, 0, 0, 0, y5_1, 0, y0_3, []⟩ : GOp)).bind fun x45 =>
    (show Option (Bool) from
    bnd (decide (x45.2 ≠ 0)) fun x48 =>
    cond x48 (some (true : Bool)) ((d_law20_all n x45.1).bind fun x49 =>
    bnd (decide (x49 ≠ x29)) fun x50 =>
    some (x50 : Bool))).bind <| fun y6_1 =>
    cond y6_1 (esc (esc (esc (some ((false : Bool)))))) (bnd (w64 (y3_1 - y5_1)) fun x51 =>
    bnd (w64 (y3_2 + 1)) fun x52 =>
    d_law20_ShipChains_L1 a3 y0_3 x29 n (x51 : Int) (x52 : Int) (x45.1 : GState))) (brk ((y3_1 : Int), (y3_3 : GState)))
def d_law20_ShipChains_L0 (a2 : List Int) (a3 : List Int) (x5 : Int) : Nat → Int → Int → Int → GState → Option ((GState) ⊕ (Bool))
  | 0, _, _, _, _ => none
  | n + 1, y0_1, y0_2, y0_3, y0_4 =>
    (show Option (Bool) from
    bnd (decide (y0_3 < (a2.length : Int))) fun x12 =>
    cond x12 (bnd (decide (y0_3 < 8)) fun x13 =>
    some (x13 : Bool)) (some (false : Bool))).bind <| fun y1_1 =>
    cond y1_1 ((show Option ((Int × Int × GState) ⊕ ((GState) ⊕ (Bool))) from
    (ix a2 y0_3).bind fun x15 =>
    (d_law00_Place x15 2000).bind fun x16 =>
    bnd (y0_3.tmod 2) fun x17 =>
    bnd (y0_3.tmod 2) fun x18 =>
    bnd (w64 (1 - x18)) fun x19 =>
    (d_ship_Do n y0_4 (⟨12, x17, 1, 0, x19, x5, x16, 0, []⟩ : GOp)).bind fun x20 =>
    (show Option (Bool) from
    bnd (decide (x20.2 ≠ 0)) fun x23 =>
    cond x23 (some (true : Bool)) ((d_law20_all n x20.1).bind fun x24 =>
    bnd (w64 (y0_2 + x16)) fun x25 =>
    bnd (w64 (x25 - y0_1)) fun x26 =>
    bnd (decide (x24 ≠ x26)) fun x27 =>
    some (x27 : Bool))).bind <| fun y2_1 =>
    cond y2_1 (esc (esc (some ((false : Bool))))) (bnd (w64 (y0_2 + x16)) fun x28 =>
    bnd (w64 (x28 - y0_1)) fun x29 =>
    (show Option ((Int × GState) ⊕ ((Int × Int × GState) ⊕ ((GState) ⊕ (Bool)))) from
    d_law20_ShipChains_L1 a3 y0_3 x29 n (x5 : Int) (0 : Int) (x20.1 : GState)).bind <| sel <| p2 fun (y8_1 : Int) (y8_2 : GState) =>
    bnd (y0_3.tmod 2) fun x56 =>
    bnd (w64 (1 - x56)) fun x57 =>
    (d_ref14_Worth n y8_2 x57 1).bind fun x58 =>
    (show Option (Bool) from
    bnd (decide (y8_1 ≠ 0)) fun x61 =>
    cond x61 (some (true : Bool)) (bnd (decide (x58.Qty ≠ x5)) fun x62 =>
    cond x62 (some (true : Bool)) (bnd (decide (x58.Value ≠ x16)) fun x63 =>
    some (x63 : Bool)))).bind <| fun y9_1 =>
    cond y9_1 (esc (esc (some ((false : Bool))))) (brk ((x16 : Int), (x29 : Int), (y8_2 : GState))))).bind <| sel <| p2 fun (y10_1 : Int) (q0 : Int × GState) => (p2 fun (y10_2 : Int) (y10_3 : GState) =>
    bnd (w64 (y0_3 + 1)) fun x68 =>
    d_law20_ShipChains_L0 a2 a3 x5 n (y10_1 : Int) (y10_2 : Int) (x68 : Int) (y10_3 : GState)) q0) (brk (y0_4 : GState))
def d_law20_ShipChains (n : Nat) (a1 : Int) (a2 : List Int) (a3 : List Int) : Option (Bool) :=
(d_law00_Place a1 50).bind fun x4 =>
bnd (w64 (1 + x4)) fun x5 =>
bnd (w64 (10 * x5)) fun x6 =>
(d_law20_stocked n 1 x5 x6).bind fun x7 =>
bnd (w64 (10 * x5)) fun x9 =>
(show Option ((GState) ⊕ (Bool)) from
d_law20_ShipChains_L0 a2 a3 x5 n (x9 : Int) (0 : Int) (0 : Int) (x7 : GState)).bind <| sel <| fun y11_1 =>
(show Option (Bool) from
(d_ref24_Mutual n y11_1).bind fun x70 =>
cond x70 ((d_law20_awake n).bind fun x71 =>
some (x71 : Bool)) (some (false : Bool))).bind <| fun y12_1 =>
some ((y12_1 : Bool))
theorem d_law20_ShipChains_c {n : Nat} {a1 : Int} {a2 : List Int} {a3 : List Int} {r : Bool} (h0 : d_law20_ShipChains n a1 a2 a3 = some r) : PP Tryz.prog 8 [int a1, lst 1 fI a2, lst 1 fI a3] (fun y => y = boo r) := by
  unfold d_law20_ShipChains at h0
  refine pp_of_pc (R0 := fun y H => Cv (frzH H) y (boo r)) ?_ (fun y H hc => ⟨_, rfl, pvB r, hc⟩)
  refine pcw (c := _) Tryz.func8 rfl rfl ?_; intro Q hret hnorm
  refine tc tbk 7 (.mk ?_)
  obtain ⟨x4, e4, h0⟩ := bind_e h0
  refine sC cal10 (d_law00_Place_c e4) ?_
  refine ni tbk h0 fun x5 h0 => ?_
  refine tr tbk 6 (.mk ?_)
  refine ni tbk h0 fun x6 h0 => ?_
  obtain ⟨x7, e7, h0⟩ := bind_e h0
  refine sC cal18 (d_law20_stocked_c e7) ?_
  refine sA 1 z32 fun v8 => ?_
  refine sS ⟨32, 10, true, true, v8, [(GState.av x7)]⟩ sh32 ?_
  refine tr tbk 4 (.mk ?_)
  refine ni tbk h0 fun x9 h0 => ?_
  refine tr tbk 8 (.mk ?_)
  refine jnE h0 [6, 8] [] (fun (a : GState) (k : Unit) => []) (fun a k => [(1, ⟨32, 10, true, true, v8, [(GState.av a)]⟩)]) ⟨fun j10 h1 h0 => ?_, ?_⟩
  refine tc tbk 1 (.mk ?_)
  refine lp (fun n (a : Int × Int × Int × GState) => d_law20_ShipChains_L0 a2 a3 x5 n a.1 a.2.1 a.2.2.1 a.2.2.2) ((x9 : Int), (0 : Int), (0 : Int), (x7 : GState)) () h1 [1, 2, 6, 7, 8] [] (fun (a : Int × Int × Int × GState) (k : Unit) => [(9, int a.1), (10, int a.2.1), (11, int a.2.2.1)]) (fun a k => [(1, ⟨32, 10, true, true, v8, [(GState.av a.2.2.2)]⟩)]) (fun _ => rfl) ⟨leA, ?_⟩
  rintro n ⟨y0_1, y0_2, y0_3, y0_4⟩ _ hm h1
  replace h1 : d_law20_ShipChains_L0 a2 a3 x5 (n + 1) y0_1 y0_2 y0_3 y0_4 = some _ := h1
  rw [d_law20_ShipChains_L0] at h1
  refine tc tbk 2 (.mk ?_)
  refine jn h1 [1, 2, 6, 7, 8, 9, 10, 11] [1] (fun (a : Bool) (k : Unit) => [(37, boo a)]) (fun a k => []) ⟨fun j11 h2 => ?_, ?_⟩
  refine tc tbk 3 (.mk ?_)
  refine sY (yv_len_sl rfl Tryz.underlying23 rfl (lst_len _)) ?_
  refine nb tbk h2 fun x12 h2 => ?_
  refine tr tbk 1 (.mk ?_)
  cases x12
  replace h2 := cf h2
  refine tr tbk 4 (.mk ?_)
  exact lf h2 () leA
  replace h2 := ct h2
  refine tr tbk 1 (.mk ?_)
  refine nb tbk h2 fun x13 h2 => ?_
  refine tr tbk 2 (.mk ?_)
  exact lf h2 () leA
  rintro y1_1 _ h1
  cases y1_1
  replace h1 := cf h1
  refine tc tbk 2 (.mk ?_)
  exact lfE h1 () leA
  replace h1 := ct h1
  refine tc tbk 3 (.mk ?_)
  refine jnE h1 [1, 2, 6, 7, 8, 11] [] (fun (a : Int × Int × GState) (k : Unit) => [(9, int a.1), (10, int a.2.1)]) (fun a k => [(1, ⟨32, 10, true, true, v8, [(GState.av a.2.2)]⟩)]) ⟨fun j14 h2 h1 => ?_, ?_⟩
  refine tc tbk 5 (.mk ?_)
  obtain ⟨x15, e15, h2⟩ := bind_e h2
  refine sY (yv_ixT rfl Tryz.underlying23 sh3 rfl rfl e15) ?_
  refine tr tbk 1 (.mk ?_)
  obtain ⟨x16, e16, h2⟩ := bind_e h2
  refine sC cal10 (d_law00_Place_c e16) ?_
  refine tr tbk 6 (.mk ?_)
  refine ni tbk h2 fun x17 h2 => ?_
  refine tr tbk 1 (.mk ?_)
  refine ni tbk h2 fun x18 h2 => ?_
  refine ni tbk h2 fun x19 h2 => ?_
  refine tr tbk 2 (.mk ?_)
  refine sY (yv_build (cs := [int 12, int x17, int 1, int 0, int x19, int x5, int x16, int 0, .sc (.slice none 0 0)]) (ps := [(0, _), (1, _), (2, _), (4, _), (5, _), (6, _)]) rfl pl38 z38 rfl (.cons rfl (.cons rfl (.cons rfl (.cons rfl (.cons rfl (.cons rfl .nil)))))) (by kernel_rfl)) ?_
  obtain ⟨x20, e20, h2⟩ := bind_e h2
  refine sY (yv_callP rfl rfl (.cons rfl (.cons rfl .nil)) cal17 (.cons (.refl _) (.cons (CvL.agg (.cons (.refl _) (.cons (.refl _) (.cons (.refl _) (.cons (.refl _) (.cons (.refl _) (.cons (.refl _) (.cons (.refl _) (.cons (.refl _) (.cons (.nil _) .nil)))))))))) .nil)) (d_ship_Do_c e20)) ?_
  refine tr tbk 3 (.mk ?_)
  refine sA 2 z32 fun v21 => ?_
  refine sS ⟨32, 10, true, true, v21, [(GState.av x20.1)]⟩ sh32 ?_
  refine tr tbk 4 (.mk ?_)
  refine jn h2 [1, 2, 6, 7, 8, 9, 10, 11, 12, 13] [1, 2] (fun (a : Bool) (k : Unit) => [(69, boo a)]) (fun a k => []) ⟨fun j22 h3 => ?_, ?_⟩
  refine tc tbk 2 (.mk ?_)
  refine nb tbk h3 fun x23 h3 => ?_
  refine tr tbk 1 (.mk ?_)
  cases x23
  replace h3 := cf h3
  refine tr tbk 1 (.mk ?_)
  obtain ⟨x24, e24, h3⟩ := bind_e h3
  refine sC cal20 (d_law20_all_c e24) ?_
  refine tr tbk 2 (.mk ?_)
  refine ni tbk h3 fun x25 h3 => ?_
  refine tr tbk 1 (.mk ?_)
  refine ni tbk h3 fun x26 h3 => ?_
  refine nb tbk h3 fun x27 h3 => ?_
  refine tr tbk 2 (.mk ?_)
  exact lf h3 () leA
  replace h3 := ct h3
  refine tr tbk 10 (.mk ?_)
  exact lf h3 () leA
  rintro y2_1 _ h2
  cases y2_1
  replace h2 := cf h2
  refine tc tbk 3 (.mk ?_)
  refine c_drawE [0, 0, 3, 0, 15, 0, 0, 31, 191, 511] (rl [(6, [2])] []) (rl [(9, [])] [2]) (rl [(9, false)] true) [0, 1, 2, 3, 4, 5, 6, 7, 8, 9] mixed (by kernel_rfl) ?_; intro K hK
  iterate 2 refine eM ?_
  obtain ⟨x28, e28, h2⟩ := bnd_e h2
  refine eP (fun H hH => yv_add rfl rfl rfl e28) ?_
  refine eM ?_
  obtain ⟨x29, e29, h2⟩ := bnd_e h2
  refine eP (fun H hH => yv_sub rfl rfl rfl e29) ?_
  refine eM ?_
  refine eL sh32 ?_
  iterate 2 refine eA ?_
  refine de_eff0 rfl rfl rfl rfl (Yield.weak (yl_ob (ob' := (⟨32, 10, true, true, v8, [(GState.av x20.1)]⟩ : AObj)) (yl_store rfl sh32 rfl rfl rfl rfl rfl rfl rfl rfl rfl) rfl) (fun _ h => h) (fun _ _ => trivial)) (by rintro _ _ ⟨rfl, rfl⟩; exact trivial) ?_; rintro _ _ ⟨rfl, rfl⟩
  refine de_nil (hK _ ?_)
  refine tc tbk 10 (.mk ?_)
  refine jnE h2 [1, 2, 6, 7, 8, 9, 10, 11] [] (fun (a : Int × GState) (k : Unit) => [(15, int a.1)]) (fun a k => [(1, ⟨32, 10, true, true, v8, [(GState.av a.2)]⟩)]) ⟨fun j30 h3 h2 => ?_, ?_⟩
  refine tc tbk 1 (.mk ?_)
  refine lp (fun n (a : Int × Int × GState) => d_law20_ShipChains_L1 a3 y0_3 x29 n a.1 a.2.1 a.2.2) ((x5 : Int), (0 : Int), (x20.1 : GState)) () h3 [1, 2, 6, 7, 8, 9, 10, 11] [] (fun (a : Int × Int × GState) (k : Unit) => [(15, int a.1), (16, int a.2.1)]) (fun a k => [(1, ⟨32, 10, true, true, v8, [(GState.av a.2.2)]⟩)]) (fun _ => rfl) ⟨leA, ?_⟩
  rintro n ⟨y3_1, y3_2, y3_3⟩ _ hm h3
  replace h3 : d_law20_ShipChains_L1 a3 y0_3 x29 (n + 1) y3_1 y3_2 y3_3 = some _ := h3
  rw [d_law20_ShipChains_L1] at h3
  refine tc tbk 2 (.mk ?_)
  refine jn h3 [1, 2, 6, 7, 8, 9, 10, 11, 15, 16] [1] (fun (a : Bool) (k : Unit) => [(83, boo a)]) (fun a k => []) ⟨fun j31 h4 => ?_, ?_⟩
  refine tc tbk 2 (.mk ?_)
  refine nb tbk h4 fun x32 h4 => ?_
  refine tr tbk 1 (.mk ?_)
  cases x32
  replace h4 := cf h4
  refine tr tbk 4 (.mk ?_)
  exact lf h4 () leA
  replace h4 := ct h4
  refine tr tbk 1 (.mk ?_)
  refine nb tbk h4 fun x33 h4 => ?_
  refine tr tbk 2 (.mk ?_)
  exact lf h4 () leA
  rintro y4_1 _ h3
  cases y4_1
  replace h3 := cf h3
  refine tc tbk 2 (.mk ?_)
  exact lfE h3 () leA
  replace h3 := ct h3
  refine tc tbk 11 (.mk ?_)
  refine jn h3 [1, 2, 6, 7, 8, 9, 10, 11, 15, 16, 17] [1] (fun (a : Bool) (k : Unit) => [(97, boo a)]) (fun a k => []) ⟨fun j34 h4 => ?_, ?_⟩
  refine tc tbk 2 (.mk ?_)
  refine nb tbk h4 fun x35 h4 => ?_
  refine tr tbk 1 (.mk ?_)
  cases x35
  replace h4 := cf h4
  refine tr tbk 9 (.mk ?_)
  exact lf h4 () leA
  replace h4 := ct h4
  refine tr tbk 1 (.mk ?_)
  refine ni tbk h4 fun x36 h4 => ?_
  refine tr tbk 1 (.mk ?_)
  refine ni tbk h4 fun x37 h4 => ?_
  refine tr tbk 1 (.mk ?_)
  refine sY (yv_len_sl rfl Tryz.underlying23 rfl (lst_len _)) ?_
  refine nb tbk h4 fun x38 h4 => ?_
  refine tr tbk 2 (.mk ?_)
  exact lf h4 () leA
  rintro y7_1 _ h3
  refine jn h3 [1, 2, 6, 7, 8, 9, 10, 11, 15, 16] [1] (fun (a : Int) (k : Unit) => [(17, int a)]) (fun a k => []) ⟨fun j39 h4 => ?_, ?_⟩
  cases y7_1
  replace h4 := cf h4
  refine tc tbk 2 (.mk ?_)
  exact lf h4 () leA
  replace h4 := ct h4
  refine tc tbk 4 (.mk ?_)
  refine ni tbk h4 fun x40 h4 => ?_
  refine tr tbk 1 (.mk ?_)
  refine ni tbk h4 fun x41 h4 => ?_
  obtain ⟨x42, e42, h4⟩ := bind_e h4
  refine sY (yv_ixT rfl Tryz.underlying23 sh3 rfl rfl e42) ?_
  refine tr tbk 2 (.mk ?_)
  obtain ⟨x43, e43, h4⟩ := bind_e h4
  refine sC cal10 (d_law00_Place_c e43) ?_
  refine ni tbk h4 fun x44 h4 => ?_
  refine tr tbk 2 (.mk ?_)
  exact lf h4 () leA
  rintro y5_1 _ h3
  refine tc tbk 5 (.mk ?_)
  refine sY (yv_build (cs := [int 13, int 0, int 0, int 0, int 0, int y5_1, int 0, int y0_3, .sc (.slice none 0 0)]) (ps := [(0, _), (7, _), (5, _)]) rfl pl38 z38 rfl (.cons rfl (.cons rfl (.cons rfl .nil))) (by kernel_rfl)) ?_
  obtain ⟨x45, e45, h3⟩ := bind_e h3
  refine sY (yv_callP rfl rfl (.cons rfl (.cons rfl .nil)) cal17 (.cons (.refl _) (.cons (CvL.agg (.cons (.refl _) (.cons (.refl _) (.cons (.refl _) (.cons (.refl _) (.cons (.refl _) (.cons (.refl _) (.cons (.refl _) (.cons (.refl _) (.cons (.nil _) .nil)))))))))) .nil)) (d_ship_Do_c e45)) ?_
  refine tr tbk 3 (.mk ?_)
  refine sA 3 z32 fun v46 => ?_
  refine sS ⟨32, 10, true, true, v46, [(GState.av x45.1)]⟩ sh32 ?_
  refine tr tbk 4 (.mk ?_)
  refine jn h3 [1, 2, 6, 7, 8, 9, 10, 11, 15, 16, 17, 18] [1, 3] (fun (a : Bool) (k : Unit) => [(123, boo a)]) (fun a k => []) ⟨fun j47 h4 => ?_, ?_⟩
  refine tc tbk 2 (.mk ?_)
  refine nb tbk h4 fun x48 h4 => ?_
  refine tr tbk 1 (.mk ?_)
  cases x48
  replace h4 := cf h4
  refine tr tbk 1 (.mk ?_)
  obtain ⟨x49, e49, h4⟩ := bind_e h4
  refine sC cal20 (d_law20_all_c e49) ?_
  refine tr tbk 1 (.mk ?_)
  refine nb tbk h4 fun x50 h4 => ?_
  refine tr tbk 2 (.mk ?_)
  exact lf h4 () leA
  replace h4 := ct h4
  refine tr tbk 6 (.mk ?_)
  exact lf h4 () leA
  rintro y6_1 _ h3
  cases y6_1
  replace h3 := cf h3
  refine tc tbk 6 (.mk ?_)
  refine ni tbk h3 fun x51 h3 => ?_
  refine sS ⟨32, 10, true, true, v8, [(GState.av x45.1)]⟩ sh32 ?_
  refine tr tbk 5 (.mk ?_)
  refine ni tbk h3 fun x52 h3 => ?_
  refine tr tbk 2 (.mk ?_)
  exact bk (x51, x52, x45.1) () h3 leA
  replace h3 := ct h3
  refine tc tbk 5 (.mk ?_)
  obtain ⟨c53, hX, hj⟩ := esc_e h3; subst hj; replace h2 := hX.trans (sel_r h2)
  obtain ⟨c54, hX, hj⟩ := esc_e h2; subst hj; replace h1 := hX.trans (sel_r h1)
  obtain ⟨c55, hX, hj⟩ := esc_e h1; subst hj; replace h0 := hX.trans (sel_r h0)
  obtain rfl := nxt_e h0
  refine wR hret (rT .nil) ?_
  exact .refl _
  rintro ⟨y8_1, y8_2⟩ _ h2
  replace h2 := p2_e h2
  refine tc tbk 4 (.mk ?_)
  refine ni tbk h2 fun x56 h2 => ?_
  refine ni tbk h2 fun x57 h2 => ?_
  obtain ⟨x58, e58, h2⟩ := bind_e h2
  refine sC cal15 (d_ref14_Worth_c e58) ?_
  refine sA 4 z50 fun v59 => ?_
  refine sS ⟨50, 3, true, true, v59, [[int x58.Qty, int x58.Value, int x58.Profit]]⟩ sh50 ?_
  refine tr tbk 2 (.mk ?_)
  refine jn h2 [1, 2, 6, 7, 8, 9, 10, 11] [1] (fun (a : Bool) (k : Unit) => [(146, boo a)]) (fun a k => []) ⟨fun j60 h3 => ?_, ?_⟩
  refine tc tbk 2 (.mk ?_)
  refine nb tbk h3 fun x61 h3 => ?_
  refine tr tbk 1 (.mk ?_)
  cases x61
  replace h3 := cf h3
  refine tr tbk 3 (.mk ?_)
  refine nb tbk h3 fun x62 h3 => ?_
  refine tr tbk 2 (.mk ?_)
  cases x62
  replace h3 := cf h3
  refine tr tbk 3 (.mk ?_)
  refine nb tbk h3 fun x63 h3 => ?_
  refine tr tbk 2 (.mk ?_)
  exact lf h3 () leA
  replace h3 := ct h3
  refine tr tbk 6 (.mk ?_)
  exact lf h3 () leA
  replace h3 := ct h3
  refine tr tbk 12 (.mk ?_)
  exact lf h3 () leA
  rintro y9_1 _ h2
  cases y9_1
  replace h2 := cf h2
  refine tc tbk 3 (.mk ?_)
  exact lfE h2 () leA
  replace h2 := ct h2
  refine tc tbk 5 (.mk ?_)
  obtain ⟨c64, hX, hj⟩ := esc_e h2; subst hj; replace h1 := hX.trans (sel_r h1)
  obtain ⟨c65, hX, hj⟩ := esc_e h1; subst hj; replace h0 := hX.trans (sel_r h0)
  obtain rfl := nxt_e h0
  refine wR hret (rT .nil) ?_
  exact .refl _
  replace h2 := ct h2
  refine tc tbk 5 (.mk ?_)
  obtain ⟨c66, hX, hj⟩ := esc_e h2; subst hj; replace h1 := hX.trans (sel_r h1)
  obtain ⟨c67, hX, hj⟩ := esc_e h1; subst hj; replace h0 := hX.trans (sel_r h0)
  obtain rfl := nxt_e h0
  refine wR hret (rT .nil) ?_
  exact .refl _
  rintro ⟨y10_1, y10_2, y10_3⟩ _ h1
  replace h1 := p2_e h1
  replace h1 := p2_e h1
  refine tc tbk 2 (.mk ?_)
  refine ni tbk h1 fun x68 h1 => ?_
  refine tr tbk 2 (.mk ?_)
  exact bk (y10_1, y10_2, x68, y10_3) () h1 leA
  rintro y11_1 _ h0
  refine tc tbk 1 (.mk ?_)
  refine jn h0 [] [] (fun (a : Bool) (k : Unit) => [(6, boo a)]) (fun a k => []) ⟨fun j69 h1 => ?_, ?_⟩
  refine tc tbk 2 (.mk ?_)
  obtain ⟨x70, e70, h1⟩ := bind_e h1
  refine sC cal21 (d_ref24_Mutual_c e70) ?_
  refine tr tbk 1 (.mk ?_)
  cases x70
  replace h1 := cf h1
  refine tr tbk 4 (.mk ?_)
  exact lf h1 () leA
  replace h1 := ct h1
  obtain ⟨x71, e71, h1⟩ := bind_e h1
  refine sC cal19 (d_law20_awake_c e71) ?_
  refine tr tbk 3 (.mk ?_)
  exact lf h1 () leA
  rintro y12_1 _ h0
  obtain rfl := nxt_e h0
  refine wR hret (rT .nil) ?_
  exact .refl _
end Go.Pv
