import Derived.Test.YtppokdmifjmdfaaGreatK33b
set_option linter.unusedVariables false
namespace Go.Pv
open Go.Proofs
set_option maxRecDepth 10000
set_option maxHeartbeats 1000000
def d_stock_Fetch (n : Nat) (a1 : GState) (a2 : Int) (a3 : Int) (a4 : Int) (a5 : Int) (a6 : Int) : Option (GState × GLayer × Bool × Int) :=
(d_stock_place a1 a2 a3 a4).bind fun x10 =>
bnd (decide (x10 < 0)) fun x11 =>
cond x11 (some ((a1 : GState), ((⟨0, 0, 0⟩ : GLayer) : GLayer), (false : Bool), (4 : Int))) ((ix a1.Master.Methods a2).bind fun x12 =>
(ix x12 a3).bind fun x13 =>
(ix a1.Master.Costs a2).bind fun x14 =>
(ix x14 a3).bind fun x15 =>
(ix a1.Ents a2).bind fun x16 =>
(ix x16.Pools x10).bind fun x17 =>
(d_pool_Out n x13 x15 x17 a5 a6).bind fun x18 =>
bnd x18.2.2.1 fun x20 =>
bnd (decide (x18.2.2.2 ≠ 0)) fun x21 =>
cond x21 (some ((a1 : GState), ((⟨0, 0, 0⟩ : GLayer) : GLayer), (false : Bool), (x18.2.2.2 : Int))) ((show Option ((Int × Bool × (List Int) × (List GRoll) × (List Int) × (List Int) × (List GEnt) × (List GPool))) from
(show Option ((Unit)) from
asrt (a1.Ents.length ≤ 68719476736) <|
(ix a1.Ents a2).bind fun x28 =>
some ()).bind <| fun _ =>
(ix a1.Ents a2).bind fun x29 =>
asrt (x29.Pools.length ≤ 68719476736) <|
(ix x29.Pools x10).bind fun x32 =>
bnd (x29.Pools.set (Int.toNat x10) (x18.1 : GPool)) fun x33 =>
some ((x29.Now : Int), (x29.Closed : Bool), (x29.Bal : List Int), (x29.Rolls : List GRoll), (x29.Prices : List Int), (x29.Down : List Int), (x29.Ahead : List GEnt), (x33 : List GPool))).bind <| p2 fun (y1_2 : Int) (q0 : Bool × (List Int) × (List GRoll) × (List Int) × (List Int) × (List GEnt) × (List GPool)) => (p2 fun (y1_3 : Bool) (q1 : (List Int) × (List GRoll) × (List Int) × (List Int) × (List GEnt) × (List GPool)) => (p2 fun (y1_5 : List Int) (q2 : (List GRoll) × (List Int) × (List Int) × (List GEnt) × (List GPool)) => (p2 fun (y1_6 : List GRoll) (q3 : (List Int) × (List Int) × (List GEnt) × (List GPool)) => (p2 fun (y1_7 : List Int) (q4 : (List Int) × (List GEnt) × (List GPool)) => (p2 fun (y1_8 : List Int) (q5 : (List GEnt) × (List GPool)) => (p2 fun (y1_9 : List GEnt) (y1_10 : List GPool) =>
(ix a1.Ents a2).bind fun x34 =>
some (((⟨a1.Master, (a1.Ents.set (Int.toNat a2) (⟨y1_2, y1_3, y1_10, y1_5, y1_6, y1_7, y1_8, y1_9⟩ : GEnt)), a1.Receipts, a1.Sales, a1.Transits, a1.Done⟩ : GState) : GState), (x18.2.1 : GLayer), (x20 : Bool), (0 : Int))) q5) q4) q3) q2) q1) q0))
theorem d_stock_Fetch_c {n : Nat} {a1 : GState} {a2 : Int} {a3 : Int} {a4 : Int} {a5 : Int} {a6 : Int} {r : GState × GLayer × Bool × Int} (h0 : d_stock_Fetch n a1 a2 a3 a4 a5 a6 = some r) : PP Tryz.prog 25 [.agg (GState.av a1), int a2, int a3, int a4, int a5, int a6] (fun y => y = .tup [.agg (GState.av r.1), .agg (GLayer.av r.2.1), boo r.2.2.1, int r.2.2.2]) := by
  unfold d_stock_Fetch at h0
  refine pp_of_pc (R0 := fun y H => Cv (frzH H) y (.tup [.agg (GState.av r.1), .agg (GLayer.av r.2.1), boo r.2.2.1, int r.2.2.2])) ?_ (fun y H hc => ⟨_, rfl, .tup (pvl4 ((fun (a : GState) => PV.agg (GState.pvc a)) (r.1)) ((fun (a : GLayer) => PV.agg (GLayer.pvc a)) (r.2.1)) (pvB (r.2.2.1)) (pvI (r.2.2.2))), hc⟩)
  refine pcw (c := _) Tryz.func25 rfl rfl ?_; intro Q hret hnorm
  refine tc tbk 2 (.mk ?_)
  refine sB 1 fun v7 => ?_
  refine sA 2 z32 fun v8 => ?_
  refine sA 3 z50 fun v9 => ?_
  refine tr tbk 9 (.mk ?_)
  obtain ⟨x10, e10, h0⟩ := bind_e h0
  refine sC cal46 (d_stock_place_c e10) ?_
  refine tr tbk 6 (.mk ?_)
  refine nb tbk h0 fun x11 h0 => ?_
  refine tr tbk 1 (.mk ?_)
  cases x11
  replace h0 := cf h0
  refine tc tbk 3 (.mk ?_)
  refine c_drawE [0, 1, 3, 0, 15, 31, 0, 127, 255, 0, 512, 1536, 0, 7680, 15872, 0, 65024, 130560, 0, 262144, 0, 1835008, 3932160, 8126464, 0, 33292288, 66846720, 0, 0, 536870911, 1073741823, 2147483647, 2147483647, 2147483647, 2147483647, 0, 38654705663, 111669149695, 257698037759, 549755813887] (rl [(0, [1]), (1, [1]), (2, [1]), (9, [1]), (10, [1]), (11, [1]), (18, [1]), (19, [1])] []) (rl [(36, []), (37, [])] [1]) (rl [(35, false), (36, false), (37, false)] true) [0, 1, 2, 3, 4, 5, 6, 7, 8, 9, 10, 11, 12, 13, 14, 15, 16, 17, 18, 19, 20, 21, 22, 23, 24, 25, 26, 27, 28, 29, 30, 31, 32, 33, 34, 35, 36, 37, 38, 39] mixed (by kernel_rfl) ?_; intro K hK
  refine eF fo32_0 ?_
  refine eF fo26_3 ?_
  refine eL sh24 ?_
  refine eM ?_
  obtain ⟨x12, e12, h0⟩ := bind_e h0
  refine eP (fun H hH => yv_ixT rfl Tryz.underlying24 sh23 rfl rfl e12) ?_
  refine eP (fun H hH => yv_load rfl sh23 rfl (.pp _) rfl) ?_
  refine eM ?_
  obtain ⟨x13, e13, h0⟩ := bind_e h0
  refine eP (fun H hH => yv_ixT rfl Tryz.underlying23 sh3 rfl rfl e13) ?_
  refine eP (fun H hH => yv_load rfl sh3 rfl (.pp _) rfl) ?_
  refine eF fo32_0 ?_
  refine eF fo26_4 ?_
  refine eL sh24 ?_
  refine eM ?_
  obtain ⟨x14, e14, h0⟩ := bind_e h0
  refine eP (fun H hH => yv_ixT rfl Tryz.underlying24 sh23 rfl rfl e14) ?_
  refine eP (fun H hH => yv_load rfl sh23 rfl (.pp _) rfl) ?_
  refine eM ?_
  obtain ⟨x15, e15, h0⟩ := bind_e h0
  refine eP (fun H hH => yv_ixT rfl Tryz.underlying23 sh3 rfl rfl e15) ?_
  refine eP (fun H hH => yv_load rfl sh3 rfl (.pp _) rfl) ?_
  refine eF fo32_1 ?_
  refine eL sh27 ?_
  refine eM ?_
  obtain ⟨x16, e16, h0⟩ := bind_e h0
  refine eP (fun H hH => yv_to (y := .pp [int x16.Now, boo x16.Closed, lst 4 GPool.av x16.Pools, lst 1 fI x16.Bal, lst 11 GRoll.av x16.Rolls, lst 1 fI x16.Prices, lst 1 fI x16.Down, lst 8 GEnt.av x16.Ahead]) (yv_ixT rfl Tryz.underlying27 sh47 rfl rfl e16) (congrArg AV.pp (GEnt.av_eq x16))) ?_
  refine eP (fun H hH => yv_fieldAddr rfl fo47_2 rfl (.pp _) (.pp _ _)) ?_
  refine eP (fun H hH => yv_load rfl sh44 rfl (.pp _) rfl) ?_
  refine eM ?_
  obtain ⟨x17, e17, h0⟩ := bind_e h0
  refine eP (fun H hH => yv_ixT rfl Tryz.underlying44 sh42 rfl rfl e17) ?_
  refine eP (fun H hH => yv_load rfl sh42 rfl (.pp _) rfl) ?_
  iterate 2 refine eM ?_
  obtain ⟨x18, e18, h0⟩ := bind_e h0
  refine eP (fun H hH => yv_callP rfl rfl (.cons rfl (.cons rfl (.cons rfl (.cons rfl (.cons rfl .nil))))) cal51 (CvL.refl _) (d_pool_Out_c e18)) ?_
  refine eM ?_
  iterate 4 refine eX ?_
  refine de_eff rfl rfl rfl rfl (yl_alloc 4 .any rfl z42 rfl) (by rintro _ _ ⟨v19, -, rfl, rfl⟩; exact ⟨rfl, trivial⟩) ?_; rintro _ _ ⟨v19, -, rfl, rfl⟩
  refine de_eff0 rfl rfl rfl rfl (Yield.weak (yl_ob (ob' := (⟨42, 4, true, true, v19, [[lst 3 GLayer.av x18.1.Layers, int x18.1.Pend.a0, int x18.1.Pend.a1, int x18.1.Pend.a2]]⟩ : AObj)) (yl_store rfl sh42 rfl rfl rfl rfl rfl rfl rfl rfl rfl) rfl) (fun _ h => h) (fun _ _ => trivial)) (by rintro _ _ ⟨rfl, rfl⟩; exact trivial) ?_; rintro _ _ ⟨rfl, rfl⟩
  refine de_eff0 rfl rfl rfl rfl (Yield.weak (yl_ob (ob' := (⟨50, 3, true, true, v9, [[int x18.2.1.Qty, int x18.2.1.Value, int x18.2.1.Profit]]⟩ : AObj)) (yl_store rfl sh50 rfl rfl rfl rfl rfl rfl rfl rfl rfl) rfl) (fun _ h => h) (fun _ _ => trivial)) (by rintro _ _ ⟨rfl, rfl⟩; exact trivial) ?_; rintro _ _ ⟨rfl, rfl⟩
  obtain ⟨x20, e20, h0⟩ := bnd_e h0
  refine eP (fun H hH => yv_to (y := boo x20) (yv_assign rfl rfl) (congrArg boo e20)) ?_
  refine eA ?_
  refine de_nil (hK _ ?_)
  refine tc tbk 4 (.mk ?_)
  refine nb tbk h0 fun x21 h0 => ?_
  refine tr tbk 1 (.mk ?_)
  cases x21
  replace h0 := cf h0
  refine tc tbk 5 (.mk ?_)
  refine sY (yv_build (cs := (GState.av a1)) (ps := [(0, _)]) rfl pl93 z93 rfl (.cons rfl .nil) (by kernel_rfl)) ?_
  refine sA 5 z93 fun v22 => ?_
  refine sS ⟨93, 10, true, true, v22, [(GState.av a1)]⟩ sh93 ?_
  refine tr tbk 6 (.mk ?_)
  obtain ⟨j23, h1, h0⟩ := bind_e h0
  refine rse (Out := fun y H' => (∃ (a : Int × Bool × (List Int) × (List GRoll) × (List Int) × (List Int) × (List GEnt) × (List GPool)) (k : Nat × Nat), a = j23 ∧ y = .tup [] ∧ H' = hk [(1, ⟨32, 10, true, true, v7, [(GState.av a1)]⟩), (2, ⟨32, 10, true, true, v8, [[int 0, int 0, .sc (.slice none 0 0), .sc (.slice none 0 0), .sc (.slice none 0 0), .sc (.slice none 0 0), .sc (.slice none 0 0), .sc (.slice none 0 0), .sc (.slice none 0 0), int 0]]⟩), (3, ⟨50, 3, true, true, v9, [[int x18.2.1.Qty, int x18.2.1.Value, int x18.2.1.Profit]]⟩), (4, ⟨42, 4, true, true, v19, [[lst 3 GLayer.av x18.1.Layers, int x18.1.Pend.a0, int x18.1.Pend.a1, int x18.1.Pend.a2]]⟩), (5, ⟨93, 10, true, true, v22, [[int a1.Master.Entities, int a1.Master.Periods, lst 1 fI a1.Master.Weights, lst 1 (fL 1 fI) a1.Master.Methods, lst 1 (fL 1 fI) a1.Master.Costs, .sl 7 k.1 0 a1.Ents.length, lst 8 GReceipt.av a1.Receipts, lst 9 GSale.av a1.Sales, lst 6 GTransit.av a1.Transits, int a1.Done]]⟩), (7, ⟨47, 8, true, true, k.1, (a1.Ents.map GEnt.av).set (Int.toNat a2) [int a.1, boo a.2.1, .sl 8 k.2 0 a.2.2.2.2.2.2.2.length, lst 1 fI a.2.2.1, lst 11 GRoll.av a.2.2.2.1, lst 1 fI a.2.2.2.2.1, lst 1 fI a.2.2.2.2.2.1, lst 8 GEnt.av a.2.2.2.2.2.2.1]⟩), (8, ⟨42, 4, true, true, k.2, a.2.2.2.2.2.2.2.map GPool.av⟩)])) rfl rfl rfl (yl_call rfl rfl (.cons rfl (.cons rfl (.cons rfl (.cons rfl .nil)))) cal48 ?_) ?_
  refine pcw (c := _) Tryz.func48 rfl rfl ?_; intro Q hret hnorm
  refine tc tbk 2 (.mk ?_)
  refine sB 6 fun v24 => ?_
  refine tr tbk 5 (.mk ?_)
  obtain ⟨j25, h2, h1⟩ := bind_e h1
  refine rse (Out := fun y H' => (∃ (a : Unit) (k : Nat), a = j25 ∧ y = .pt 7 k (Int.toNat a2) 0 ∧ H' = hk [(1, ⟨32, 10, true, true, v7, [(GState.av a1)]⟩), (2, ⟨32, 10, true, true, v8, [[int 0, int 0, .sc (.slice none 0 0), .sc (.slice none 0 0), .sc (.slice none 0 0), .sc (.slice none 0 0), .sc (.slice none 0 0), .sc (.slice none 0 0), .sc (.slice none 0 0), int 0]]⟩), (3, ⟨50, 3, true, true, v9, [[int x18.2.1.Qty, int x18.2.1.Value, int x18.2.1.Profit]]⟩), (4, ⟨42, 4, true, true, v19, [[lst 3 GLayer.av x18.1.Layers, int x18.1.Pend.a0, int x18.1.Pend.a1, int x18.1.Pend.a2]]⟩), (5, ⟨93, 10, true, true, v22, [[int a1.Master.Entities, int a1.Master.Periods, lst 1 fI a1.Master.Weights, lst 1 (fL 1 fI) a1.Master.Methods, lst 1 (fL 1 fI) a1.Master.Costs, .sl 7 k 0 a1.Ents.length, lst 8 GReceipt.av a1.Receipts, lst 9 GSale.av a1.Sales, lst 6 GTransit.av a1.Transits, int a1.Done]]⟩), (6, ⟨42, 4, true, true, v24, [[lst 3 GLayer.av x18.1.Layers, int x18.1.Pend.a0, int x18.1.Pend.a1, int x18.1.Pend.a2]]⟩), (7, ⟨47, 8, true, true, k, a1.Ents.map GEnt.av⟩)])) rfl rfl rfl (yl_call rfl rfl (.cons rfl (.cons rfl .nil)) cal97 ?_) ?_
  refine pcw (c := _) Tryz.func97 rfl rfl ?_; intro Q hret hnorm
  refine tc tbk 12 (.mk ?_)
  obtain ⟨p26, h2⟩ := asrt_e h2
  refine rse rfl rfl rfl (yl_call rfl rfl (.cons rfl .nil) cal121 (pc_cv (clone121_c (id := 7) (l := a1.Ents) rfl p26) (.cons (.refl _) .nil))) ?_; rintro _ _ ⟨v27, rfl, rfl⟩
  refine tr tbk 3 (.mk ?_)
  refine sS ⟨93, 10, true, true, v22, [[int a1.Master.Entities, int a1.Master.Periods, lst 1 fI a1.Master.Weights, lst 1 (fL 1 fI) a1.Master.Methods, lst 1 (fL 1 fI) a1.Master.Costs, .sl 7 v27 0 a1.Ents.length, lst 8 GReceipt.av a1.Receipts, lst 9 GSale.av a1.Sales, lst 6 GTransit.av a1.Transits, int a1.Done]]⟩ sh27 ?_
  refine tr tbk 9 (.mk ?_)
  obtain ⟨x28, e28, h2⟩ := bind_e h2
  refine sY (yv_ixO rfl Tryz.underlying27 sh47 rfl rfl rfl rfl rfl (Eq.symm rfl) (List.length_map _) e28) ?_
  refine tr tbk 2 (.mk ?_)
  obtain rfl := nxt_e h2
  refine w_ret (hret _ _ (hk [(1, ⟨32, 10, true, true, v7, [(GState.av a1)]⟩), (2, ⟨32, 10, true, true, v8, [[int 0, int 0, .sc (.slice none 0 0), .sc (.slice none 0 0), .sc (.slice none 0 0), .sc (.slice none 0 0), .sc (.slice none 0 0), .sc (.slice none 0 0), .sc (.slice none 0 0), int 0]]⟩), (3, ⟨50, 3, true, true, v9, [[int x18.2.1.Qty, int x18.2.1.Value, int x18.2.1.Profit]]⟩), (4, ⟨42, 4, true, true, v19, [[lst 3 GLayer.av x18.1.Layers, int x18.1.Pend.a0, int x18.1.Pend.a1, int x18.1.Pend.a2]]⟩), (5, ⟨93, 10, true, true, v22, [[int a1.Master.Entities, int a1.Master.Periods, lst 1 fI a1.Master.Weights, lst 1 (fL 1 fI) a1.Master.Methods, lst 1 (fL 1 fI) a1.Master.Costs, .sl 7 v27 0 a1.Ents.length, lst 8 GReceipt.av a1.Receipts, lst 9 GSale.av a1.Sales, lst 6 GTransit.av a1.Transits, int a1.Done]]⟩), (6, ⟨42, 4, true, true, v24, [[lst 3 GLayer.av x18.1.Layers, int x18.1.Pend.a0, int x18.1.Pend.a1, int x18.1.Pend.a2]]⟩), (7, ⟨47, 8, true, true, v27, a1.Ents.map GEnt.av⟩)]) (.tmp rfl .nil) (HK.le ⟨rfl, rfl, rfl, rfl, rfl, rfl, rfl, trivial⟩) ?_)
  exact ⟨(), v27, rfl, rfl, rfl⟩
  rintro y _ ⟨_, w0_1, rfl, hc, rfl⟩
  subst hc
  refine tr tbk 6 (.mk ?_)
  obtain ⟨x29, e29, h1⟩ := bind_e h1
  refine sY (yv_nilCheck rfl rfl (.pt rfl rfl (ix_get' e29 (GEnt.av_eq _)))) ?_
  refine sY (yv_fieldAddr rfl fo47_2 rfl (.pt rfl rfl (ix_get' e29 (GEnt.av_eq _))) (.pt _ _ _ _ _)) ?_
  refine sY (yv_load rfl sh44 rfl (.pt rfl rfl (ix_get' e29 (GEnt.av_eq _))) rfl) ?_
  obtain ⟨p30, h1⟩ := asrt_e h1
  refine rse rfl rfl rfl (yl_call rfl rfl (.cons rfl .nil) cal98 (pc_cv (clone98_c (id := 8) (l := x29.Pools) rfl p30) (.cons (.refl _) .nil))) ?_; rintro _ _ ⟨v31, rfl, rfl⟩
  refine sY (yv_nilCheck rfl rfl (.pt rfl rfl (ix_get' e29 (GEnt.av_eq _)))) ?_
  refine sY (yv_fieldAddr rfl fo47_2 rfl (.pt rfl rfl (ix_get' e29 (GEnt.av_eq _))) (.pt _ _ _ _ _)) ?_
  refine rsstore rfl rfl (yl_ob (ob' := (⟨47, 8, true, true, w0_1, (a1.Ents.map GEnt.av).set (Int.toNat a2) [int x29.Now, boo x29.Closed, .sl 8 v31 0 x29.Pools.length, lst 1 fI x29.Bal, lst 11 GRoll.av x29.Rolls, lst 1 fI x29.Prices, lst 1 fI x29.Down, lst 8 GEnt.av x29.Ahead]⟩ : AObj)) (yl_store rfl sh44 rfl rfl rfl rfl rfl (ix_get' e29 (GEnt.av_eq _)) rfl rfl rfl) (ob_eq rfl)) ?_
  refine tr tbk 1 (.mk ?_)
  refine c_drawE [0, 1, 3, 7, 0, 0, 63, 127] (rl [(1, [7]), (2, [7]), (3, [7]), (5, [6]), (6, [8])] []) (rl [(7, [])] [6, 7, 8]) (rl [(7, false)] true) [0, 1, 2, 3, 4, 5, 6, 7] mixed (by kernel_rfl) ?_; intro K hK
  refine eM ?_
  refine eN (hr := set_get e29) ?_
  refine eF fo47_2 (hr := set_get e29) ?_
  refine eL sh44 (hr := set_get e29) ?_
  refine eM ?_
  refine eL sh42 ?_
  obtain ⟨x32, e32, h1⟩ := bind_e h1
  refine de_pure rfl rfl rfl rfl (fun H hH => yv_ixO rfl Tryz.underlying44 sh42 rfl rfl ((hH _ (by decide)).trans rfl) rfl rfl (Eq.symm rfl) (List.length_map _) e32) ?_
  obtain ⟨x33, e33, h1⟩ := bnd_e h1
  have fx33 := ix_set e32 e33; have lx33 := len_setV e33 (rfl : x29.Pools.length = x29.Pools.length)
  refine de_eff0 rfl rfl rfl rfl (Yield.weak (yl_ob (ob' := (⟨42, 4, true, true, v31, x33.map GPool.av⟩ : AObj)) (yl_store rfl sh42 rfl rfl rfl rfl rfl (ix_get e32) rfl rfl rfl) (ob_eq (map_setV e33))) (fun _ h => h) (fun _ _ => trivial)) (by rintro _ _ ⟨rfl, rfl⟩; exact trivial) ?_; rintro _ _ ⟨rfl, rfl⟩
  refine de_nil (hK _ ?_)
  obtain rfl := nxt_e h1
  refine c_nil (hnorm _ _ (hk [(1, ⟨32, 10, true, true, v7, [(GState.av a1)]⟩), (2, ⟨32, 10, true, true, v8, [[int 0, int 0, .sc (.slice none 0 0), .sc (.slice none 0 0), .sc (.slice none 0 0), .sc (.slice none 0 0), .sc (.slice none 0 0), .sc (.slice none 0 0), .sc (.slice none 0 0), int 0]]⟩), (3, ⟨50, 3, true, true, v9, [[int x18.2.1.Qty, int x18.2.1.Value, int x18.2.1.Profit]]⟩), (4, ⟨42, 4, true, true, v19, [[lst 3 GLayer.av x18.1.Layers, int x18.1.Pend.a0, int x18.1.Pend.a1, int x18.1.Pend.a2]]⟩), (5, ⟨93, 10, true, true, v22, [[int a1.Master.Entities, int a1.Master.Periods, lst 1 fI a1.Master.Weights, lst 1 (fL 1 fI) a1.Master.Methods, lst 1 (fL 1 fI) a1.Master.Costs, .sl 7 w0_1 0 a1.Ents.length, lst 8 GReceipt.av a1.Receipts, lst 9 GSale.av a1.Sales, lst 6 GTransit.av a1.Transits, int a1.Done]]⟩), (7, ⟨47, 8, true, true, w0_1, (a1.Ents.map GEnt.av).set (Int.toNat a2) [int x29.Now, boo x29.Closed, .sl 8 v31 0 x33.length, lst 1 fI x29.Bal, lst 11 GRoll.av x29.Rolls, lst 1 fI x29.Prices, lst 1 fI x29.Down, lst 8 GEnt.av x29.Ahead]⟩), (8, ⟨42, 4, true, true, v31, x33.map GPool.av⟩)]) .nil (HK.le ⟨rfl, rfl, rfl, rfl, rfl, (by first | rfl | exact lx33 ▸ rfl), rfl, trivial⟩) ?_)
  exact ⟨(x29.Now, x29.Closed, x29.Bal, x29.Rolls, x29.Prices, x29.Down, x29.Ahead, x33), (w0_1, v31), rfl, rfl, rfl⟩
  rintro y _ ⟨⟨y1_2, y1_3, y1_5, y1_6, y1_7, y1_8, y1_9, y1_10⟩, ⟨w1_1, w1_4⟩, rfl, hc, rfl⟩
  replace h0 := p2_e h0
  replace h0 := p2_e h0
  replace h0 := p2_e h0
  replace h0 := p2_e h0
  replace h0 := p2_e h0
  replace h0 := p2_e h0
  replace h0 := p2_e h0
  subst hc
  obtain ⟨x34, e34, h0⟩ := bind_e h0
  refine tr tbk 2 (.mk ?_)
  refine c_drawE [0, 1, 0, 0, 3, 23, 63, 127] (rl [(0, [5]), (1, [5]), (2, [3])] []) (rl [(4, [3]), (5, [])] [3, 5]) (rl [(4, false), (5, false)] true) [0, 1, 2, 3, 4, 5, 6, 7] mixed (by kernel_rfl) ?_; intro K hK
  refine eF fo93_0 ?_
  refine eL sh32 ?_
  refine eL sh50 ?_
  refine eM ?_
  refine de_eff0 rfl rfl rfl rfl (Yield.weak (yl_ob (ob' := (⟨32, 10, true, true, v8, [[int a1.Master.Entities, int a1.Master.Periods, lst 1 fI a1.Master.Weights, lst 1 (fL 1 fI) a1.Master.Methods, lst 1 (fL 1 fI) a1.Master.Costs, .sl 7 w1_1 0 a1.Ents.length, lst 8 GReceipt.av a1.Receipts, lst 9 GSale.av a1.Sales, lst 6 GTransit.av a1.Transits, int a1.Done]]⟩ : AObj)) (yl_store rfl sh32 rfl rfl rfl rfl rfl rfl rfl rfl rfl) rfl) (fun _ h => h) (fun _ _ => trivial)) (by rintro _ _ ⟨rfl, rfl⟩; exact ⟨rfl, trivial⟩) ?_; rintro _ _ ⟨rfl, rfl⟩
  refine de_eff0 rfl rfl rfl rfl (Yield.weak (yl_ob (ob' := (⟨50, 3, true, true, v9, [[int x18.2.1.Qty, int x18.2.1.Value, int x18.2.1.Profit]]⟩ : AObj)) (yl_store rfl sh50 rfl rfl rfl rfl rfl rfl rfl rfl rfl) rfl) (fun _ h => h) (fun _ _ => trivial)) (by rintro _ _ ⟨rfl, rfl⟩; exact trivial) ?_; rintro _ _ ⟨rfl, rfl⟩
  iterate 2 refine eA ?_
  refine de_nil (hK _ ?_)
  obtain rfl := nxt_e h0
  refine wR hret (rC sh32 (rC sh50 (rT (rT .nil)))) ?_
  exact CvL.tup (.cons (CvL.agg (.cons (.refl _) (.cons (.refl _) (.cons (.refl _) (.cons (.refl _) (.cons (.refl _) (.cons (cv_ov rfl rfl rfl rfl rfl (Eq.symm rfl) e34 (cvl_to (.cons (.refl _) (.cons (.refl _) (.cons (cv_lst rfl rfl rfl rfl rfl (Eq.symm rfl)) (.cons (.refl _) (.cons (.refl _) (.cons (.refl _) (.cons (.refl _) (.cons (.refl _) .nil)))))))) (GEnt.av_eq _))) (.cons (.refl _) (.cons (.refl _) (.cons (.refl _) (.cons (.refl _) .nil))))))))))) (.cons (.refl _) (.cons (.refl _) (.cons (.refl _) .nil))))
  replace h0 := ct h0
  refine tc tbk 6 (.mk ?_)
  refine sS ⟨32, 10, true, true, v8, [(GState.av a1)]⟩ sh32 ?_
  refine sS ⟨50, 3, true, true, v9, [[int 0, int 0, int 0]]⟩ sh50 ?_
  refine tr tbk 3 (.mk ?_)
  obtain rfl := nxt_e h0
  refine wR hret (rC sh32 (rC sh50 (rT (rT .nil)))) ?_
  exact .refl _
  replace h0 := ct h0
  refine tc tbk 5 (.mk ?_)
  refine sS ⟨32, 10, true, true, v8, [(GState.av a1)]⟩ sh32 ?_
  refine sS ⟨50, 3, true, true, v9, [[int 0, int 0, int 0]]⟩ sh50 ?_
  refine tr tbk 3 (.mk ?_)
  obtain rfl := nxt_e h0
  refine wR hret (rC sh32 (rC sh50 (rT (rT .nil)))) ?_
  exact .refl _
def d_fifo_wrong (a1 : GLayer) : Option (Bool) :=
(show Option (Bool) from
bnd (decide (a1.Qty < 1)) fun x4 =>
cond x4 (some (true : Bool)) (bnd (decide (a1.Qty > 288230376151711744)) fun x5 =>
cond x5 (some (true : Bool)) (bnd (decide (a1.Value < 0)) fun x6 =>
cond x6 (some (true : Bool)) (bnd (decide (a1.Value > 288230376151711744)) fun x7 =>
cond x7 (some (true : Bool)) (bnd (decide (a1.Profit < (-288230376151711744))) fun x8 =>
cond x8 (some (true : Bool)) (bnd (decide (a1.Profit > 288230376151711744)) fun x9 =>
some (x9 : Bool))))))).bind <| fun y0_1 =>
some ((y0_1 : Bool))
theorem d_fifo_wrong_c {a1 : GLayer} {r : Bool} (h0 : d_fifo_wrong a1 = some r) : PP Tryz.prog 226 [.agg (GLayer.av a1)] (fun y => y = boo r) := by
  unfold d_fifo_wrong at h0
  refine pp_of_pc (R0 := fun y H => Cv (frzH H) y (boo r)) ?_ (fun y H hc => ⟨_, rfl, pvB r, hc⟩)
  refine pcw (c := _) Tryz.func226 rfl rfl ?_; intro Q hret hnorm
  refine tc tbk 2 (.mk ?_)
  refine sB 1 fun v2 => ?_
  refine tr tbk 3 (.mk ?_)
  refine jn h0 [] [] (fun (a : Bool) (k : Unit) => [(2, boo a)]) (fun a k => []) ⟨fun j3 h1 => ?_, ?_⟩
  refine tc tbk 3 (.mk ?_)
  refine nb tbk h1 fun x4 h1 => ?_
  refine tr tbk 1 (.mk ?_)
  cases x4
  replace h1 := cf h1
  refine tr tbk 2 (.mk ?_)
  refine nb tbk h1 fun x5 h1 => ?_
  refine tr tbk 2 (.mk ?_)
  cases x5
  replace h1 := cf h1
  refine tr tbk 2 (.mk ?_)
  refine nb tbk h1 fun x6 h1 => ?_
  refine tr tbk 2 (.mk ?_)
  cases x6
  replace h1 := cf h1
  refine tr tbk 2 (.mk ?_)
  refine nb tbk h1 fun x7 h1 => ?_
  refine tr tbk 2 (.mk ?_)
  cases x7
  replace h1 := cf h1
  refine tr tbk 2 (.mk ?_)
  refine nb tbk h1 fun x8 h1 => ?_
  refine tr tbk 2 (.mk ?_)
  cases x8
  replace h1 := cf h1
  refine tr tbk 2 (.mk ?_)
  refine nb tbk h1 fun x9 h1 => ?_
  refine tr tbk 3 (.mk ?_)
  exact lf h1 () leA
  replace h1 := ct h1
  refine tr tbk 6 (.mk ?_)
  exact lf h1 () leA
  replace h1 := ct h1
  refine tr tbk 11 (.mk ?_)
  exact lf h1 () leA
  replace h1 := ct h1
  refine tr tbk 16 (.mk ?_)
  exact lf h1 () leA
  replace h1 := ct h1
  refine tr tbk 21 (.mk ?_)
  exact lf h1 () leA
  replace h1 := ct h1
  refine tr tbk 26 (.mk ?_)
  exact lf h1 () leA
  rintro y0_1 _ h0
  obtain rfl := nxt_e h0
  refine wR hret (rT .nil) ?_
  exact .refl _
def d_money_Add (a1 : Int) (a2 : Int) : Option (Int × Int) :=
(show Option (Bool) from
(d_money_in a1).bind fun x4 =>
bnd (!x4) fun x5 =>
cond x5 (some (true : Bool)) ((d_money_in a2).bind fun x6 =>
bnd (!x6) fun x7 =>
cond x7 (some (true : Bool)) (bnd (w64 (a1 + a2)) fun x8 =>
(d_money_in x8).bind fun x9 =>
bnd (!x9) fun x10 =>
some (x10 : Bool)))).bind <| fun y0_1 =>
cond y0_1 (some ((0 : Int), (2 : Int))) (bnd (w64 (a1 + a2)) fun x11 =>
some ((x11 : Int), (0 : Int)))
theorem d_money_Add_c {a1 : Int} {a2 : Int} {r : Int × Int} (h0 : d_money_Add a1 a2 = some r) : PP Tryz.prog 136 [int a1, int a2] (fun y => y = .tup [int r.1, int r.2]) := by
  unfold d_money_Add at h0
  refine pp_of_pc (R0 := fun y H => Cv (frzH H) y (.tup [int r.1, int r.2])) ?_ (fun y H hc => ⟨_, rfl, .tup (pvl2 (pvI (r.1)) (pvI (r.2))), hc⟩)
  refine pcw (c := _) Tryz.func136 rfl rfl ?_; intro Q hret hnorm
  refine tc tbk 7 (.mk ?_)
  refine jn h0 [0, 1, 4, 5] [] (fun (a : Bool) (k : Unit) => [(20, boo a)]) (fun a k => []) ⟨fun j3 h1 => ?_, ?_⟩
  refine tc tbk 2 (.mk ?_)
  obtain ⟨x4, e4, h1⟩ := bind_e h1
  refine sC cal138 (d_money_in_c e4) ?_
  refine nb tbk h1 fun x5 h1 => ?_
  refine tr tbk 1 (.mk ?_)
  cases x5
  replace h1 := cf h1
  refine tr tbk 1 (.mk ?_)
  obtain ⟨x6, e6, h1⟩ := bind_e h1
  refine sC cal138 (d_money_in_c e6) ?_
  refine nb tbk h1 fun x7 h1 => ?_
  refine tr tbk 2 (.mk ?_)
  cases x7
  replace h1 := cf h1
  refine tr tbk 2 (.mk ?_)
  refine ni tbk h1 fun x8 h1 => ?_
  obtain ⟨x9, e9, h1⟩ := bind_e h1
  refine sC cal138 (d_money_in_c e9) ?_
  refine nb tbk h1 fun x10 h1 => ?_
  refine tr tbk 2 (.mk ?_)
  exact lf h1 () leA
  replace h1 := ct h1
  refine tr tbk 7 (.mk ?_)
  exact lf h1 () leA
  replace h1 := ct h1
  refine tr tbk 12 (.mk ?_)
  exact lf h1 () leA
  rintro y0_1 _ h0
  cases y0_1
  replace h0 := cf h0
  refine tc tbk 6 (.mk ?_)
  refine ni tbk h0 fun x11 h0 => ?_
  refine tr tbk 3 (.mk ?_)
  obtain rfl := nxt_e h0
  refine wR hret (rT (rT .nil)) ?_
  exact .refl _
  replace h0 := ct h0
  refine tc tbk 6 (.mk ?_)
  obtain rfl := nxt_e h0
  refine wR hret (rT (rT .nil)) ?_
  exact .refl _
def d_money_Sum_L0 (a1 : List Int) : Nat → Int → Int → Option ((Int) ⊕ (Int × Int))
  | 0, _, _ => none
  | n + 1, y0_1, y0_2 =>
    bnd (decide (y0_2 < (a1.length : Int))) fun x3 =>
    cond x3 ((ix a1 y0_2).bind fun x4 =>
    (d_money_Add y0_1 x4).bind fun x5 =>
    bnd (decide (x5.2 ≠ 0)) fun x6 =>
    cond x6 (esc (some ((0 : Int), (x5.2 : Int)))) (bnd (w64 (y0_2 + 1)) fun x7 =>
    d_money_Sum_L0 a1 n (x5.1 : Int) (x7 : Int))) (brk (y0_1 : Int))
def d_money_Sum (n : Nat) (a1 : List Int) : Option (Int × Int) :=
(show Option ((Int) ⊕ (Int × Int)) from
d_money_Sum_L0 a1 n (0 : Int) (0 : Int)).bind <| sel <| fun y1_1 =>
some ((y1_1 : Int), (0 : Int))
theorem d_money_Sum_c {n : Nat} {a1 : List Int} {r : Int × Int} (h0 : d_money_Sum n a1 = some r) : PP Tryz.prog 100 [lst 1 fI a1] (fun y => y = .tup [int r.1, int r.2]) := by
  unfold d_money_Sum at h0
  refine pp_of_pc (R0 := fun y H => Cv (frzH H) y (.tup [int r.1, int r.2])) ?_ (fun y H hc => ⟨_, rfl, .tup (pvl2 (pvI (r.1)) (pvI (r.2))), hc⟩)
  refine pcw (c := _) Tryz.func100 rfl rfl ?_; intro Q hret hnorm
  refine tc tbk 13 (.mk ?_)
  refine sY (yv_len_sl rfl Tryz.underlying23 rfl (lst_len _)) ?_
  refine tr tbk 2 (.mk ?_)
  refine jnE h0 [2, 3] [] (fun (a : Int) (k : Unit) => [(4, int a)]) (fun a k => []) ⟨fun j2 h1 h0 => ?_, ?_⟩
  refine tc tbk 1 (.mk ?_)
  refine lp (fun n (a : Int × Int) => d_money_Sum_L0 a1 n a.1 a.2) ((0 : Int), (0 : Int)) () h1 [2, 3, 8, 9] [] (fun (a : Int × Int) (k : Unit) => [(4, int a.1), (10, int a.2)]) (fun a k => []) (fun _ => rfl) ⟨leA, ?_⟩
  rintro n ⟨y0_1, y0_2⟩ _ hm h1
  replace h1 : d_money_Sum_L0 a1 (n + 1) y0_1 y0_2 = some _ := h1
  rw [d_money_Sum_L0] at h1
  refine tc tbk 2 (.mk ?_)
  refine nb tbk h1 fun x3 h1 => ?_
  refine tr tbk 2 (.mk ?_)
  cases x3
  replace h1 := cf h1
  refine tc tbk 2 (.mk ?_)
  exact lfE h1 () leA
  replace h1 := ct h1
  refine tc tbk 6 (.mk ?_)
  obtain ⟨x4, e4, h1⟩ := bind_e h1
  refine sY (yv_ixT rfl Tryz.underlying23 sh3 rfl rfl e4) ?_
  refine tr tbk 11 (.mk ?_)
  obtain ⟨x5, e5, h1⟩ := bind_e h1
  refine sC cal136 (d_money_Add_c e5) ?_
  refine tr tbk 9 (.mk ?_)
  refine nb tbk h1 fun x6 h1 => ?_
  refine tr tbk 1 (.mk ?_)
  cases x6
  replace h1 := cf h1
  refine tc tbk 4 (.mk ?_)
  refine ni tbk h1 fun x7 h1 => ?_
  refine tr tbk 2 (.mk ?_)
  exact bk (x5.1, x7) () h1 leA
  replace h1 := ct h1
  refine tc tbk 7 (.mk ?_)
  obtain ⟨c8, hX, hj⟩ := esc_e h1; subst hj; replace h0 := hX.trans (sel_r h0)
  obtain rfl := nxt_e h0
  refine wR hret (rT (rT .nil)) ?_
  exact .refl _
  rintro y1_1 _ h0
  refine tc tbk 6 (.mk ?_)
  obtain rfl := nxt_e h0
  refine wR hret (rT (rT .nil)) ?_
  exact .refl _
def d_fifo_Total_L0 (a1 : List GLayer) : Nat → Int → (List Int) → (List Int) → (List Int) → Option ((List Int) × (List Int) × (List Int))
  | 0, _, _, _, _ => none
  | n + 1, y0_4, y0_5, y0_6, y0_7 =>
    bnd (decide (y0_4 < (a1.length : Int))) fun x7 =>
    cond x7 ((ix a1 y0_4).bind fun x8 =>
    bnd (y0_5 ++ ([x8.Qty] : List Int)) fun x10 =>
    asrt (x10.length ≤ 68719476736) <|
    bnd (y0_6 ++ ([x8.Value] : List Int)) fun x13 =>
    asrt (x13.length ≤ 68719476736) <|
    bnd (y0_7 ++ ([x8.Profit] : List Int)) fun x16 =>
    asrt (x16.length ≤ 68719476736) <|
    bnd (w64 (y0_4 + 1)) fun x19 =>
    d_fifo_Total_L0 a1 n (x19 : Int) (x10 : List Int) (x13 : List Int) (x16 : List Int)) (some ((y0_5 : List Int), (y0_6 : List Int), (y0_7 : List Int)))
def d_fifo_Total (n : Nat) (a1 : List GLayer) : Option (GLayer × Int) :=
(show Option ((List Int) × (List Int) × (List Int)) from
d_fifo_Total_L0 a1 n (0 : Int) (([] : List Int) : List Int) (([] : List Int) : List Int) (([] : List Int) : List Int)).bind <| p2 fun (y1_4 : List Int) (q0 : (List Int) × (List Int)) => (p2 fun (y1_5 : List Int) (y1_6 : List Int) =>
(show Option ((GLayer) ⊕ (GLayer × Int)) from
(d_money_Sum n y1_4).bind fun x23 =>
bnd (decide (x23.2 ≠ 0)) fun x24 =>
cond x24 (esc (some (((⟨0, 0, 0⟩ : GLayer) : GLayer), (x23.2 : Int)))) ((d_money_Sum n y1_5).bind fun x26 =>
bnd (decide (x26.2 ≠ 0)) fun x27 =>
cond x27 (esc (some (((⟨0, 0, 0⟩ : GLayer) : GLayer), (x26.2 : Int)))) ((d_money_Sum n y1_6).bind fun x29 =>
bnd (decide (x29.2 ≠ 0)) fun x30 =>
cond x30 (esc (some (((⟨0, 0, 0⟩ : GLayer) : GLayer), (x29.2 : Int)))) (brk ((⟨x23.1, x26.1, x29.1⟩ : GLayer) : GLayer))))).bind <| sel <| fun y2_1 =>
some ((y2_1 : GLayer), (0 : Int))) q0
theorem d_fifo_Total_c {n : Nat} {a1 : List GLayer} {r : GLayer × Int} (h0 : d_fifo_Total n a1 = some r) : PP Tryz.prog 99 [lst 3 GLayer.av a1] (fun y => y = .tup [.agg (GLayer.av r.1), int r.2]) := by
  unfold d_fifo_Total at h0
  refine pp_of_pc (R0 := fun y H => Cv (frzH H) y (.tup [.agg (GLayer.av r.1), int r.2])) ?_ (fun y H hc => ⟨_, rfl, .tup (pvl2 ((fun (a : GLayer) => PV.agg (GLayer.pvc a)) (r.1)) (pvI (r.2))), hc⟩)
  refine pcw (c := _) Tryz.func99 rfl rfl ?_; intro Q hret hnorm
  refine tc tbk 2 (.mk ?_)
  refine sA 1 z50 fun v2 => ?_
  refine tr tbk 12 (.mk ?_)
  refine sY (yv_len_sl rfl Tryz.underlying39 rfl (lst_len _)) ?_
  refine tr tbk 2 (.mk ?_)
  refine jn h0 [2, 3] [1] (fun (a : (List Int) × (List Int) × (List Int)) (k : Nat × Nat × Nat) => [(4, .sl 6 k.1 0 a.1.length), (5, .sl 7 k.2.1 0 a.2.1.length), (6, .sl 8 k.2.2 0 a.2.2.length)]) (fun a k => [(6, ⟨3, 1, true, true, k.1, a.1.map fI⟩), (7, ⟨3, 1, true, true, k.2.1, a.2.1.map fI⟩), (8, ⟨3, 1, true, true, k.2.2, a.2.2.map fI⟩)]) ⟨fun j3 h1 => ?_, ?_⟩
  refine tc tbk 1 (.mk ?_)
  refine c_nilobj 4 6 3 1 rfl rfl ?_; intro v4
  refine c_nilobj 5 7 3 1 rfl rfl ?_; intro v5
  refine c_nilobj 6 8 3 1 rfl rfl ?_; intro v6
  refine lp (fun n (a : Int × (List Int) × (List Int) × (List Int)) => d_fifo_Total_L0 a1 n a.1 a.2.1 a.2.2.1 a.2.2.2) ((0 : Int), (([] : List Int) : List Int), (([] : List Int) : List Int), (([] : List Int) : List Int)) (v4, v5, v6) h1 [2, 3, 14, 15] [1] (fun (a : Int × (List Int) × (List Int) × (List Int)) (k : Nat × Nat × Nat) => [(4, .sl 6 k.1 0 a.2.1.length), (5, .sl 7 k.2.1 0 a.2.2.1.length), (6, .sl 8 k.2.2 0 a.2.2.2.length), (16, int a.1)]) (fun a k => [(6, ⟨3, 1, true, true, k.1, a.2.1.map fI⟩), (7, ⟨3, 1, true, true, k.2.1, a.2.2.1.map fI⟩), (8, ⟨3, 1, true, true, k.2.2, a.2.2.2.map fI⟩)]) (fun _ => rfl) ⟨leA, ?_⟩
  rintro n ⟨y0_4, y0_5, y0_6, y0_7⟩ ⟨w0_1, w0_2, w0_3⟩ hm h1
  replace h1 : d_fifo_Total_L0 a1 (n + 1) y0_4 y0_5 y0_6 y0_7 = some _ := h1
  rw [d_fifo_Total_L0] at h1
  refine tc tbk 2 (.mk ?_)
  refine nb tbk h1 fun x7 h1 => ?_
  refine tr tbk 2 (.mk ?_)
  cases x7
  replace h1 := cf h1
  refine tc tbk 2 (.mk ?_)
  exact lf h1 (w0_1, w0_2, w0_3) leA
  replace h1 := ct h1
  refine tc tbk 6 (.mk ?_)
  obtain ⟨x8, e8, h1⟩ := bind_e h1
  refine sY (yv_ixT rfl Tryz.underlying39 sh50 rfl rfl e8) ?_
  refine tr tbk 1 (.mk ?_)
  refine sA 2 z50 fun v9 => ?_
  refine sS ⟨50, 3, true, true, v9, [[int x8.Qty, int x8.Value, int x8.Profit]]⟩ sh50 ?_
  refine tr tbk 1 (.mk ?_)
  refine c_drawE [0, 0, 2, 6, 15, 0, 0, 64, 192, 511, 0, 0, 2048, 6144, 16383, 32767, 65535, 131071] (rl [(1, [2]), (2, [2]), (6, [2]), (7, [2]), (11, [2]), (12, [2])] []) (rl [(14, [])] [2]) (rl [(4, false), (9, false), (14, false)] true) [0, 1, 2, 3, 5, 6, 7, 8, 10, 11, 12, 13, 4, 9, 14, 15, 16, 17] mixed (by kernel_rfl) ?_; intro K hK
  refine eM ?_
  refine eF fo50_0 ?_
  refine eL sh3 ?_
  refine eP (fun H hH => yv_to (y := lst 1 fI ([x8.Qty] : List Int)) (yv_buildSlice (ps := [(0, _)]) (rows := [[int x8.Qty]]) rfl Tryz.underlying23 bz3 (.cons rfl .nil) (by kernel_rfl) rfl rfl rfl) rfl) ?_
  refine eM ?_
  refine eF fo50_1 ?_
  refine eL sh3 ?_
  refine eP (fun H hH => yv_to (y := lst 1 fI ([x8.Value] : List Int)) (yv_buildSlice (ps := [(0, _)]) (rows := [[int x8.Value]]) rfl Tryz.underlying23 bz3 (.cons rfl .nil) (by kernel_rfl) rfl rfl rfl) rfl) ?_
  refine eM ?_
  refine eF fo50_2 ?_
  refine eL sh3 ?_
  refine eP (fun H hH => yv_to (y := lst 1 fI ([x8.Profit] : List Int)) (yv_buildSlice (ps := [(0, _)]) (rows := [[int x8.Profit]]) rfl Tryz.underlying23 bz3 (.cons rfl .nil) (by kernel_rfl) rfl rfl rfl) rfl) ?_
  obtain ⟨x10, e10, h1⟩ := bnd_e h1
  obtain ⟨p11, h1⟩ := asrt_e h1
  refine de_eff rfl rfl rfl rfl (yl_appT (g := fI) (l := y0_5) (m := ([x8.Qty] : List Int)) .any rfl Tryz.underlying23 bz3 by3 rfl rfl rfl rfl rfl rfl rfl rfl rfl rfl (Eq.symm rfl) (.refl _) (fun _ => rfl) e10 p11) (by rintro _ _ ⟨v12, -, rfl, rfl⟩; exact ⟨rfl, trivial⟩) ?_; rintro _ _ ⟨v12, -, rfl, rfl⟩
  obtain ⟨x13, e13, h1⟩ := bnd_e h1
  obtain ⟨p14, h1⟩ := asrt_e h1
  refine de_eff rfl rfl rfl rfl (yl_appT (g := fI) (l := y0_6) (m := ([x8.Value] : List Int)) .any rfl Tryz.underlying23 bz3 by3 rfl rfl rfl rfl rfl rfl rfl rfl rfl rfl (Eq.symm rfl) (.refl _) (fun _ => rfl) e13 p14) (by rintro _ _ ⟨v15, -, rfl, rfl⟩; exact ⟨rfl, trivial⟩) ?_; rintro _ _ ⟨v15, -, rfl, rfl⟩
  obtain ⟨x16, e16, h1⟩ := bnd_e h1
  obtain ⟨p17, h1⟩ := asrt_e h1
  refine de_eff rfl rfl rfl rfl (yl_appT (g := fI) (l := y0_7) (m := ([x8.Profit] : List Int)) .any rfl Tryz.underlying23 bz3 by3 rfl rfl rfl rfl rfl rfl rfl rfl rfl rfl (Eq.symm rfl) (.refl _) (fun _ => rfl) e16 p17) (by rintro _ _ ⟨v18, -, rfl, rfl⟩; exact trivial) ?_; rintro _ _ ⟨v18, -, rfl, rfl⟩
  iterate 3 refine eA ?_
  refine de_nil (hK _ ?_)
  refine tc tbk 2 (.mk ?_)
  refine ni tbk h1 fun x19 h1 => ?_
  refine tr tbk 2 (.mk ?_)
  exact bk (x19, x10, x13, x16) (v12, v15, v18) h1 leA
  rintro ⟨y1_4, y1_5, y1_6⟩ ⟨w1_1, w1_2, w1_3⟩ h0
  replace h0 := p2_e h0
  replace h0 := p2_e h0
  refine tc tbk 2 (.mk ?_)
  refine sA 9 z50 fun v20 => ?_
  refine tr tbk 13 (.mk ?_)
  refine sY (yv_buildSlice (ps := [(0, _), (1, _), (2, _)]) (rows := [[.pt 9 v20 0 0, .sl 6 w1_1 0 y1_4.length], [.pt 9 v20 0 1, .sl 7 w1_2 0 y1_5.length], [.pt 9 v20 0 2, .sl 8 w1_3 0 y1_6.length]]) rfl Tryz.underlying196 bz195 (.cons rfl (.cons rfl (.cons rfl .nil))) (by kernel_rfl) rfl rfl rfl) ?_
  refine sY (yv_to (y := int 3) (yv_len_sl rfl Tryz.underlying196 rfl (.list _ _)) rfl) ?_
  refine tr tbk 2 (.mk ?_)
  refine jnE h0 [2, 3, 9] [1] (fun (a : GLayer) (k : Unit) => []) (fun a k => [(9, ⟨50, 3, true, true, v20, [[int a.Qty, int a.Value, int a.Profit]]⟩)]) ⟨fun j21 h1 h0 => ?_, ?_⟩
  refine tc tbk 4 (.mk ?_)
  refine sY (yv_to (y := boo true) (yv_lss rfl rfl rfl) (congrArg boo (by decide))) ?_
  refine tr tbk 8 (.mk ?_)
  refine sY (yv_indexAddr (j := 0) rfl Tryz.underlying196 sh195 rfl rfl rfl (.list rfl)) ?_
  refine tr tbk 1 (.mk ?_)
  refine sA 10 z195 fun v22 => ?_
  refine sS ⟨195, 2, true, true, v22, [[.pt 9 v20 0 0, .sl 6 w1_1 0 y1_4.length]]⟩ sh195 ?_
  refine tr tbk 5 (.mk ?_)
  obtain ⟨x23, e23, h1⟩ := bind_e h1
  refine sY (yv_callT (v := .tup [int x23.1, int x23.2]) rfl rfl (.cons rfl .nil) cal100 (.cons (cv_lst rfl rfl rfl rfl rfl (Eq.symm rfl)) .nil) (d_money_Sum_c e23) rfl) ?_
  refine tr tbk 10 (.mk ?_)
  refine nb tbk h1 fun x24 h1 => ?_
  refine tr tbk 1 (.mk ?_)
  cases x24
  replace h1 := cf h1
  refine tc tbk 7 (.mk ?_)
  refine sS ⟨50, 3, true, true, v20, [[int x23.1, int 0, int 0]]⟩ sh3 ?_
  refine tr tbk 3 (.mk ?_)
  refine sY (yv_add (r := 1) rfl rfl rfl (by decide)) ?_
  refine tr tbk 5 (.mk ?_)
  refine sY (yv_to (y := boo true) (yv_lss rfl rfl rfl) (congrArg boo (by decide))) ?_
  refine tr tbk 8 (.mk ?_)
  refine sY (yv_indexAddr (j := 1) rfl Tryz.underlying196 sh195 rfl rfl rfl (.list rfl)) ?_
  refine tr tbk 1 (.mk ?_)
  refine sA 11 z195 fun v25 => ?_
  refine sS ⟨195, 2, true, true, v25, [[.pt 9 v20 0 1, .sl 7 w1_2 0 y1_5.length]]⟩ sh195 ?_
  refine tr tbk 5 (.mk ?_)
  obtain ⟨x26, e26, h1⟩ := bind_e h1
  refine sY (yv_callT (v := .tup [int x26.1, int x26.2]) rfl rfl (.cons rfl .nil) cal100 (.cons (cv_lst rfl rfl rfl rfl rfl (Eq.symm rfl)) .nil) (d_money_Sum_c e26) rfl) ?_
  refine tr tbk 10 (.mk ?_)
  refine nb tbk h1 fun x27 h1 => ?_
  refine tr tbk 1 (.mk ?_)
  cases x27
  replace h1 := cf h1
  refine tc tbk 7 (.mk ?_)
  refine sS ⟨50, 3, true, true, v20, [[int x23.1, int x26.1, int 0]]⟩ sh3 ?_
  refine tr tbk 3 (.mk ?_)
  refine sY (yv_add (r := 2) rfl rfl rfl (by decide)) ?_
  refine tr tbk 5 (.mk ?_)
  refine sY (yv_to (y := boo true) (yv_lss rfl rfl rfl) (congrArg boo (by decide))) ?_
  refine tr tbk 8 (.mk ?_)
  refine sY (yv_indexAddr (j := 2) rfl Tryz.underlying196 sh195 rfl rfl rfl (.list rfl)) ?_
  refine tr tbk 1 (.mk ?_)
  refine sA 12 z195 fun v28 => ?_
  refine sS ⟨195, 2, true, true, v28, [[.pt 9 v20 0 2, .sl 8 w1_3 0 y1_6.length]]⟩ sh195 ?_
  refine tr tbk 5 (.mk ?_)
  obtain ⟨x29, e29, h1⟩ := bind_e h1
  refine sY (yv_callT (v := .tup [int x29.1, int x29.2]) rfl rfl (.cons rfl .nil) cal100 (.cons (cv_lst rfl rfl rfl rfl rfl (Eq.symm rfl)) .nil) (d_money_Sum_c e29) rfl) ?_
  refine tr tbk 10 (.mk ?_)
  refine nb tbk h1 fun x30 h1 => ?_
  refine tr tbk 1 (.mk ?_)
  cases x30
  replace h1 := cf h1
  refine tc tbk 7 (.mk ?_)
  refine sS ⟨50, 3, true, true, v20, [[int x23.1, int x26.1, int x29.1]]⟩ sh3 ?_
  refine tr tbk 3 (.mk ?_)
  refine sY (yv_add (r := 3) rfl rfl rfl (by decide)) ?_
  refine tr tbk 5 (.mk ?_)
  refine sY (yv_to (y := boo false) (yv_lss rfl rfl rfl) (congrArg boo (by decide))) ?_
  refine tr tbk 4 (.mk ?_)
  exact lfE h1 () leA
  replace h1 := ct h1
  refine tc tbk 5 (.mk ?_)
  refine sS ⟨50, 3, true, true, v2, [[int 0, int 0, int 0]]⟩ sh50 ?_
  refine tr tbk 2 (.mk ?_)
  obtain ⟨c31, hX, hj⟩ := esc_e h1; subst hj; replace h0 := hX.trans (sel_r h0)
  obtain rfl := nxt_e h0
  refine wR hret (rC sh50 (rT .nil)) ?_
  exact .refl _
  replace h1 := ct h1
  refine tc tbk 5 (.mk ?_)
  refine sS ⟨50, 3, true, true, v2, [[int 0, int 0, int 0]]⟩ sh50 ?_
  refine tr tbk 2 (.mk ?_)
  obtain ⟨c32, hX, hj⟩ := esc_e h1; subst hj; replace h0 := hX.trans (sel_r h0)
  obtain rfl := nxt_e h0
  refine wR hret (rC sh50 (rT .nil)) ?_
  exact .refl _
  replace h1 := ct h1
  refine tc tbk 5 (.mk ?_)
  refine sS ⟨50, 3, true, true, v2, [[int 0, int 0, int 0]]⟩ sh50 ?_
  refine tr tbk 2 (.mk ?_)
  obtain ⟨c33, hX, hj⟩ := esc_e h1; subst hj; replace h0 := hX.trans (sel_r h0)
  obtain rfl := nxt_e h0
  refine wR hret (rC sh50 (rT .nil)) ?_
  exact .refl _
  rintro y2_1 _ h0
  refine tc tbk 3 (.mk ?_)
  refine sS ⟨50, 3, true, true, v2, [[int y2_1.Qty, int y2_1.Value, int y2_1.Profit]]⟩ sh50 ?_
  refine tr tbk 2 (.mk ?_)
  obtain rfl := nxt_e h0
  refine wR hret (rC sh50 (rT .nil)) ?_
  exact .refl _
def d_fifo_steady_L0 (a1 : List GLayer) : Nat → Int → (List Int) → Option ((List Int))
  | 0, _, _ => none
  | n + 1, y0_2, y0_3 =>
    bnd (decide (y0_2 < (a1.length : Int))) fun x4 =>
    cond x4 ((ix a1 y0_2).bind fun x5 =>
    bnd (w64 (0 - x5.Profit)) fun x7 =>
    bnd (if x7 > x5.Profit then x7 else x5.Profit) fun x8 =>
    bnd (y0_3 ++ ([x8] : List Int)) fun x9 =>
    asrt (x9.length ≤ 68719476736) <|
    bnd (w64 (y0_2 + 1)) fun x12 =>
    d_fifo_steady_L0 a1 n (x12 : Int) (x9 : List Int)) (some (y0_3 : List Int))
def d_fifo_steady (n : Nat) (a1 : List GLayer) : Option (Bool) :=
(show Option ((List Int)) from
d_fifo_steady_L0 a1 n (0 : Int) (([] : List Int) : List Int)).bind <| fun y1_2 =>
(d_money_Sum n y1_2).bind fun x13 =>
bnd (decide (x13.2 = 0)) fun x14 =>
some ((x14 : Bool))
theorem d_fifo_steady_c {n : Nat} {a1 : List GLayer} {r : Bool} (h0 : d_fifo_steady n a1 = some r) : PP Tryz.prog 227 [lst 3 GLayer.av a1] (fun y => y = boo r) := by
  unfold d_fifo_steady at h0
  refine pp_of_pc (R0 := fun y H => Cv (frzH H) y (boo r)) ?_ (fun y H hc => ⟨_, rfl, pvB r, hc⟩)
  refine pcw (c := _) Tryz.func227 rfl rfl ?_; intro Q hret hnorm
  refine tc tbk 12 (.mk ?_)
  refine sY (yv_len_sl rfl Tryz.underlying39 rfl (lst_len _)) ?_
  refine tr tbk 2 (.mk ?_)
  refine jn h0 [2] [] (fun (a : (List Int)) (k : Nat) => [(3, .sl 3 k 0 a.length)]) (fun a k => [(3, ⟨3, 1, true, true, k, a.map fI⟩)]) ⟨fun j2 h1 => ?_, ?_⟩
  refine tc tbk 1 (.mk ?_)
  refine c_nilobj 3 3 3 1 rfl rfl ?_; intro v3
  refine lp (fun n (a : Int × (List Int)) => d_fifo_steady_L0 a1 n a.1 a.2) ((0 : Int), (([] : List Int) : List Int)) v3 h1 [2, 8, 9] [] (fun (a : Int × (List Int)) (k : Nat) => [(3, .sl 3 k 0 a.2.length), (10, int a.1)]) (fun a k => [(3, ⟨3, 1, true, true, k, a.2.map fI⟩)]) (fun _ => rfl) ⟨leA, ?_⟩
  rintro n ⟨y0_2, y0_3⟩ w0_1 hm h1
  replace h1 : d_fifo_steady_L0 a1 (n + 1) y0_2 y0_3 = some _ := h1
  rw [d_fifo_steady_L0] at h1
  refine tc tbk 2 (.mk ?_)
  refine nb tbk h1 fun x4 h1 => ?_
  refine tr tbk 2 (.mk ?_)
  cases x4
  replace h1 := cf h1
  refine tc tbk 2 (.mk ?_)
  exact lf h1 w0_1 leA
  replace h1 := ct h1
  refine tc tbk 6 (.mk ?_)
  obtain ⟨x5, e5, h1⟩ := bind_e h1
  refine sY (yv_ixT rfl Tryz.underlying39 sh50 rfl rfl e5) ?_
  refine tr tbk 1 (.mk ?_)
  refine sA 1 z50 fun v6 => ?_
  refine sS ⟨50, 3, true, true, v6, [[int x5.Qty, int x5.Value, int x5.Profit]]⟩ sh50 ?_
  refine tr tbk 7 (.mk ?_)
  refine ni tbk h1 fun x7 h1 => ?_
  obtain ⟨x8, e8, h1⟩ := bnd_e h1
  refine sY (yv_max rfl rfl rfl e8) ?_
  refine sY (yv_to (y := lst 1 fI ([x8] : List Int)) (yv_buildSlice (ps := [(0, _)]) (rows := [[int x8]]) rfl Tryz.underlying23 bz3 (.cons rfl .nil) (by kernel_rfl) rfl rfl rfl) rfl) ?_
  obtain ⟨x9, e9, h1⟩ := bnd_e h1
  obtain ⟨p10, h1⟩ := asrt_e h1
  refine rse rfl rfl rfl (yl_appT (g := fI) (l := y0_3) (m := ([x8] : List Int)) .any rfl Tryz.underlying23 bz3 by3 rfl rfl rfl rfl rfl rfl rfl rfl rfl rfl (Eq.symm rfl) (.refl _) (fun _ => rfl) e9 p10) ?_; rintro _ _ ⟨v11, -, rfl, rfl⟩
  refine tr tbk 4 (.mk ?_)
  refine ni tbk h1 fun x12 h1 => ?_
  refine tr tbk 2 (.mk ?_)
  exact bk (x12, x9) v11 h1 leA
  rintro y1_2 w1_1 h0
  refine tc tbk 3 (.mk ?_)
  obtain ⟨x13, e13, h0⟩ := bind_e h0
  refine sY (yv_callT (v := .tup [int x13.1, int x13.2]) rfl rfl (.cons rfl .nil) cal100 (.cons (cv_lst rfl rfl rfl rfl rfl (Eq.symm rfl)) .nil) (d_money_Sum_c e13) rfl) ?_
  refine tr tbk 9 (.mk ?_)
  refine nb tbk h0 fun x14 h0 => ?_
  refine tr tbk 2 (.mk ?_)
  obtain rfl := nxt_e h0
  refine wR hret (rT .nil) ?_
  exact .refl _
def d_fifo_Right_L0 (a1 : List GLayer) : Nat → Int → Option ((Unit) ⊕ ((Int)))
  | 0, _ => none
  | n + 1, y0_1 =>
    bnd (decide (y0_1 < (a1.length : Int))) fun x7 =>
    cond x7 ((ix a1 y0_1).bind fun x8 =>
    (d_fifo_wrong x8).bind fun x9 =>
    cond x9 (esc (some (y0_1 : Int))) (bnd (w64 (y0_1 + 1)) fun x10 =>
    d_fifo_Right_L0 a1 n (x10 : Int))) (brk ())
def d_fifo_Right (n : Nat) (a1 : List GLayer) : Option (Bool) :=
(show Option (Bool) from
bnd (decide ((a1.length : Int) > 30)) fun x3 =>
cond x3 (some (true : Bool)) ((show Option ((Bool)) from
(show Option ((Int)) from
(show Option ((Unit) ⊕ ((Int))) from
d_fifo_Right_L0 a1 n (0 : Int)).bind <| sel <| fun _ =>
some ((-1) : Int)).bind <| fun y2_1 =>
bnd (decide (y2_1 ≥ 0)) fun x12 =>
some (x12 : Bool)).bind <| fun y3_1 =>
some (y3_1 : Bool))).bind <| fun y4_1 =>
cond y4_1 (some ((false : Bool))) ((d_fifo_Total n a1).bind fun x13 =>
(show Option (Bool) from
bnd (decide (x13.2 = 0)) fun x16 =>
cond x16 ((d_fifo_steady n a1).bind fun x17 =>
some (x17 : Bool)) (some (false : Bool))).bind <| fun y5_1 =>
some ((y5_1 : Bool)))
theorem d_fifo_Right_c {n : Nat} {a1 : List GLayer} {r : Bool} (h0 : d_fifo_Right n a1 = some r) : PP Tryz.prog 201 [lst 3 GLayer.av a1] (fun y => y = boo r) := by
  unfold d_fifo_Right at h0
  refine pp_of_pc (R0 := fun y H => Cv (frzH H) y (boo r)) ?_ (fun y H hc => ⟨_, rfl, pvB r, hc⟩)
  refine pcw (c := _) Tryz.func201 rfl rfl ?_; intro Q hret hnorm
  refine tc tbk 6 (.mk ?_)
  refine jn h0 [0, 2] [] (fun (a : Bool) (k : Unit) => [(11, boo a)]) (fun a k => []) ⟨fun j2 h1 => ?_, ?_⟩
  refine tc tbk 2 (.mk ?_)
  refine sY (yv_len_sl rfl Tryz.underlying39 rfl (lst_len _)) ?_
  refine nb tbk h1 fun x3 h1 => ?_
  refine tr tbk 1 (.mk ?_)
  cases x3
  replace h1 := cf h1
  refine tr tbk 1 (.mk ?_)
  obtain ⟨j4, h2, h1⟩ := bind_e h1
  refine rse (Out := fun y H' => (∃ (a : Bool) (k : Unit), a = j4 ∧ y = boo a ∧ H' = hk [])) rfl rfl rfl (yl_call rfl rfl (.cons rfl (.cons rfl .nil)) cal225 ?_) ?_
  refine pcw (c := _) Tryz.func225 rfl rfl ?_; intro Q hret hnorm
  refine tc tbk 8 (.mk ?_)
  obtain ⟨j5, h3, h2⟩ := bind_e h2
  refine rse (Out := fun y H' => (∃ (a : Int) (k : Unit), a = j5 ∧ y = int a ∧ H' = hk [])) rfl rfl rfl (yl_call rfl rfl (.cons rfl (.cons rfl .nil)) cal242 ?_) ?_
  refine pcw (c := _) Tryz.func242 rfl rfl ?_; intro Q hret hnorm
  refine tc tbk 8 (.mk ?_)
  refine sY (yv_len_sl rfl Tryz.underlying39 rfl (lst_len _)) ?_
  refine tr tbk 2 (.mk ?_)
  refine jnE h3 [4] [] (fun (a : Unit) (k : Unit) => []) (fun a k => []) ⟨fun j6 h4 h3 => ?_, ?_⟩
  refine tc tbk 1 (.mk ?_)
  refine lp (fun n (a : Int) => d_fifo_Right_L0 a1 n a) (0 : Int) () h4 [0, 1, 4, 7] [] (fun (a : Int) (k : Unit) => [(8, int a)]) (fun a k => []) (fun _ => rfl) ⟨leA, ?_⟩
  rintro n y0_1 _ hm h4
  replace h4 : d_fifo_Right_L0 a1 (n + 1) y0_1 = some _ := h4
  rw [d_fifo_Right_L0] at h4
  refine tc tbk 2 (.mk ?_)
  refine nb tbk h4 fun x7 h4 => ?_
  refine tr tbk 2 (.mk ?_)
  cases x7
  replace h4 := cf h4
  refine tc tbk 2 (.mk ?_)
  exact lfE h4 () leA
  replace h4 := ct h4
  refine tc tbk 14 (.mk ?_)
  obtain ⟨x8, e8, h4⟩ := bind_e h4
  refine sY (yv_ixT rfl Tryz.underlying39 sh50 rfl rfl e8) ?_
  refine tr tbk 1 (.mk ?_)
  obtain ⟨x9, e9, h4⟩ := bind_e h4
  refine sC cal226 (d_fifo_wrong_c e9) ?_
  refine tr tbk 1 (.mk ?_)
  cases x9
  replace h4 := cf h4
  refine tc tbk 4 (.mk ?_)
  refine ni tbk h4 fun x10 h4 => ?_
  refine tr tbk 2 (.mk ?_)
  exact bk x10 () h4 leA
  replace h4 := ct h4
  refine tc tbk 6 (.mk ?_)
  obtain ⟨c11, hX, hj⟩ := esc_e h4; subst hj; replace h3 := hX.trans (sel_r h3)
  obtain rfl := nxt_e h3
  refine w_ret (hret _ _ (hk []) (.tmp rfl .nil) (fun _ _ h => nomatch h) ?_)
  exact ⟨y0_1, (), rfl, rfl, rfl⟩
  rintro _ _ h3
  refine tc tbk 4 (.mk ?_)
  obtain rfl := nxt_e h3
  refine w_ret (hret _ _ (hk []) (.tmp rfl .nil) (fun _ _ h => nomatch h) ?_)
  exact ⟨(-1), (), rfl, rfl, rfl⟩
  rintro y _ ⟨y2_1, _, rfl, hc, rfl⟩
  subst hc
  refine nb tbk h2 fun x12 h2 => ?_
  refine tr tbk 2 (.mk ?_)
  obtain rfl := nxt_e h2
  refine w_ret (hret _ _ (hk []) (.tmp rfl .nil) (fun _ _ h => nomatch h) ?_)
  exact ⟨x12, (), rfl, rfl, rfl⟩
  rintro y _ ⟨y3_1, _, rfl, hc, rfl⟩
  subst hc
  refine tr tbk 2 (.mk ?_)
  exact lf h1 () leA
  replace h1 := ct h1
  refine tr tbk 4 (.mk ?_)
  exact lf h1 () leA
  rintro y4_1 _ h0
  cases y4_1
  replace h0 := cf h0
  refine tc tbk 5 (.mk ?_)
  obtain ⟨x13, e13, h0⟩ := bind_e h0
  refine sC cal99 (d_fifo_Total_c e13) ?_
  refine tr tbk 3 (.mk ?_)
  refine sA 1 z50 fun v14 => ?_
  refine sS ⟨50, 3, true, true, v14, [[int x13.1.Qty, int x13.1.Value, int x13.1.Profit]]⟩ sh50 ?_
  refine tr tbk 3 (.mk ?_)
  refine jn h0 [] [] (fun (a : Bool) (k : Unit) => [(2, boo a)]) (fun a k => []) ⟨fun j15 h1 => ?_, ?_⟩
  refine tc tbk 2 (.mk ?_)
  refine nb tbk h1 fun x16 h1 => ?_
  refine tr tbk 1 (.mk ?_)
  cases x16
  replace h1 := cf h1
  refine tr tbk 5 (.mk ?_)
  exact lf h1 () leA
  replace h1 := ct h1
  refine tr tbk 1 (.mk ?_)
  obtain ⟨x17, e17, h1⟩ := bind_e h1
  refine sC cal227 (d_fifo_steady_c e17) ?_
  refine tr tbk 3 (.mk ?_)
  exact lf h1 () leA
  rintro y5_1 _ h0
  obtain rfl := nxt_e h0
  refine wR hret (rT .nil) ?_
  exact .refl _
  replace h0 := ct h0
  refine tc tbk 5 (.mk ?_)
  obtain rfl := nxt_e h0
  refine wR hret (rT .nil) ?_
  exact .refl _
def d_fifo_In (n : Nat) (a1 : List GLayer) (a2 : GLayer) : Option ((List GLayer) × Int) :=
asrt (a1.length ≤ 68719476736) <|
(show Option (Bool) from
bnd (decide (a2.Qty < 1)) fun x7 =>
cond x7 (some (true : Bool)) (bnd (decide (a2.Value < 0)) fun x8 =>
some (x8 : Bool))).bind <| fun y0_1 =>
cond y0_1 (some ((a1 : List GLayer), (1 : Int))) (bnd (decide ((a1.length : Int) ≥ 30)) fun x9 =>
cond x9 (some ((a1 : List GLayer), (6 : Int))) (asrt (a1.length ≤ 68719476736) <|
bnd (a1 ++ ([a2] : List GLayer)) fun x12 =>
asrt (x12.length ≤ 68719476736) <|
(d_fifo_Right n x12).bind fun x15 =>
bnd (!x15) fun x16 =>
cond x16 (some ((a1 : List GLayer), (2 : Int))) (some ((x12 : List GLayer), (0 : Int)))))
theorem d_fifo_In_c {n : Nat} {a1 : List GLayer} {a2 : GLayer} {r : (List GLayer) × Int} (h0 : d_fifo_In n a1 a2 = some r) : PP Tryz.prog 267 [lst 3 GLayer.av a1, .agg (GLayer.av a2)] (fun y => y = .tup [lst 3 GLayer.av r.1, int r.2]) := by
  unfold d_fifo_In at h0
  refine pp_of_pc (R0 := fun y H => Cv (frzH H) y (.tup [lst 3 GLayer.av r.1, int r.2])) ?_ (fun y H hc => ⟨_, rfl, .tup (pvl2 ((pvLs GLayer.pvc) (r.1)) (pvI (r.2))), hc⟩)
  refine pcw (c := _) Tryz.func267 rfl rfl ?_; intro Q hret hnorm
  refine tc tbk 2 (.mk ?_)
  refine sB 1 fun v3 => ?_
  refine tr tbk 6 (.mk ?_)
  obtain ⟨p4, h0⟩ := asrt_e h0
  refine rse rfl rfl rfl (yl_call rfl rfl (.cons rfl .nil) cal59 (pc_cv (clone59_c (id := 2) (l := a1) rfl p4) (.cons (.refl _) .nil))) ?_; rintro _ _ ⟨v5, rfl, rfl⟩
  refine tr tbk 5 (.mk ?_)
  refine jn h0 [0, 3, 4, 5] [1, 2] (fun (a : Bool) (k : Unit) => [(9, boo a)]) (fun a k => []) ⟨fun j6 h1 => ?_, ?_⟩
  refine tc tbk 3 (.mk ?_)
  refine nb tbk h1 fun x7 h1 => ?_
  refine tr tbk 1 (.mk ?_)
  cases x7
  replace h1 := cf h1
  refine tr tbk 2 (.mk ?_)
  refine nb tbk h1 fun x8 h1 => ?_
  refine tr tbk 3 (.mk ?_)
  exact lf h1 () leA
  replace h1 := ct h1
  refine tr tbk 6 (.mk ?_)
  exact lf h1 () leA
  rintro y0_1 _ h0
  cases y0_1
  replace h0 := cf h0
  refine tc tbk 4 (.mk ?_)
  refine sY (yv_len_sl rfl Tryz.underlying39 rfl (.sl rfl rfl)) ?_
  refine nb tbk h0 fun x9 h0 => ?_
  refine tr tbk 2 (.mk ?_)
  cases x9
  replace h0 := cf h0
  refine tc tbk 4 (.mk ?_)
  refine c_drawE [0, 1, 0, 4, 15, 31] (rl [(2, [1])] []) (rl [(4, [])] [1]) (rl [(1, false), (4, false)] true) [0, 2, 3, 1, 4, 5] mixed (by kernel_rfl) ?_; intro K hK
  refine eM ?_
  refine eL sh50 ?_
  refine eP (fun H hH => yv_to (y := lst 3 GLayer.av ([a2] : List GLayer)) (yv_buildSlice (ps := [(0, _)]) (rows := [[int a2.Qty, int a2.Value, int a2.Profit]]) rfl Tryz.underlying39 bz50 (.cons rfl .nil) (by kernel_rfl) rfl rfl rfl) rfl) ?_
  obtain ⟨p10, h0⟩ := asrt_e h0
  refine de_eff rfl rfl rfl rfl (Yield.frz 2 rfl (yl_call rfl rfl (.cons rfl .nil) cal59 (pc_cv (clone59_c (id := 3) (l := a1) rfl p10) (.cons (cv_lst rfl rfl rfl rfl rfl (Eq.symm rfl)) .nil)))) (by rintro _ _ ⟨v11, rfl, rfl⟩; exact ⟨rfl, trivial⟩) ?_; rintro _ _ ⟨v11, rfl, rfl⟩
  obtain ⟨x12, e12, h0⟩ := bnd_e h0
  obtain ⟨p13, h0⟩ := asrt_e h0
  refine de_eff rfl rfl rfl rfl (yl_appT (g := GLayer.av) (l := a1) (m := ([a2] : List GLayer)) .any rfl Tryz.underlying39 bz50 by50 rfl rfl rfl rfl rfl rfl rfl rfl rfl rfl (Eq.symm rfl) (.refl _) (fun _ => rfl) e12 p13) (by rintro _ _ ⟨v14, -, rfl, rfl⟩; exact trivial) ?_; rintro _ _ ⟨v14, -, rfl, rfl⟩
  refine eA ?_
  refine de_nil (hK _ ?_)
  refine tc tbk 4 (.mk ?_)
  obtain ⟨x15, e15, h0⟩ := bind_e h0
  refine sY (yv_callT (v := boo x15) rfl rfl (.cons rfl .nil) cal201 (.cons (cv_lst rfl rfl rfl rfl rfl (Eq.symm rfl)) .nil) (d_fifo_Right_c e15) rfl) ?_
  refine nb tbk h0 fun x16 h0 => ?_
  refine tr tbk 1 (.mk ?_)
  cases x16
  replace h0 := cf h0
  refine tc tbk 8 (.mk ?_)
  obtain rfl := nxt_e h0
  refine wR hret (rT (rT .nil)) ?_
  exact CvL.tup (.cons (cv_lst rfl rfl rfl rfl rfl (Eq.symm rfl)) (.cons (.refl _) .nil))
  replace h0 := ct h0
  refine tc tbk 7 (.mk ?_)
  obtain rfl := nxt_e h0
  refine wR hret (rT (rT .nil)) ?_
  exact CvL.tup (.cons (cv_lst rfl rfl rfl rfl rfl (Eq.symm rfl)) (.cons (.refl _) .nil))
  replace h0 := ct h0
  refine tc tbk 7 (.mk ?_)
  obtain rfl := nxt_e h0
  refine wR hret (rT (rT .nil)) ?_
  exact CvL.tup (.cons (cv_lst rfl rfl rfl rfl rfl (Eq.symm rfl)) (.cons (.refl _) .nil))
  replace h0 := ct h0
  refine tc tbk 7 (.mk ?_)
  obtain rfl := nxt_e h0
  refine wR hret (rT (rT .nil)) ?_
  exact CvL.tup (.cons (cv_lst rfl rfl rfl rfl rfl (Eq.symm rfl)) (.cons (.refl _) .nil))
def d_mavg_In (n : Nat) (a1 : List GLayer) (a2 : GLayer) : Option ((List GLayer) × Int) :=
(show Option ((Unit)) from
some ()).bind <| fun _ =>
(d_fifo_In n a1 a2).bind fun x6 =>
bnd (decide (x6.2 ≠ 0)) fun x7 =>
cond x7 (some ((x6.1 : List GLayer), (x6.2 : Int))) ((show Option ((Unit)) from
some ()).bind <| fun _ =>
(d_fifo_Total n x6.1).bind fun x10 =>
bnd (decide (x10.2 ≠ 0)) fun x12 =>
cond x12 (asrt (a1.length ≤ 68719476736) <|
some ((a1 : List GLayer), (x10.2 : Int))) (some ((([x10.1] : List GLayer) : List GLayer), (0 : Int))))
theorem d_mavg_In_c {n : Nat} {a1 : List GLayer} {a2 : GLayer} {r : (List GLayer) × Int} (h0 : d_mavg_In n a1 a2 = some r) : PP Tryz.prog 272 [lst 3 GLayer.av a1, .agg (GLayer.av a2)] (fun y => y = .tup [lst 3 GLayer.av r.1, int r.2]) := by
  unfold d_mavg_In at h0
  refine pp_of_pc (R0 := fun y H => Cv (frzH H) y (.tup [lst 3 GLayer.av r.1, int r.2])) ?_ (fun y H hc => ⟨_, rfl, .tup (pvl2 ((pvLs GLayer.pvc) (r.1)) (pvI (r.2))), hc⟩)
  refine pcw (c := _) Tryz.func272 rfl rfl ?_; intro Q hret hnorm
  refine tc tbk 2 (.mk ?_)
  refine sB 1 fun v3 => ?_
  refine tr tbk 4 (.mk ?_)
  refine c_drawE [0, 1, 0, 0, 15, 31, 63, 63, 127, 511] (rl [(3, [1])] []) (fun i => [1]) (rl [(0, false)] true) [2, 3, 0, 1, 4, 5, 6, 7, 8, 9] mixed (by kernel_rfl) ?_; intro K hK
  refine eM ?_
  refine eL sh50 ?_
  obtain ⟨j4, h1, h0⟩ := bind_e h0
  refine de_eff (Out := fun y H' => (∃ (a : Unit) (k : Unit), a = j4 ∧ y = .agg [.fn (.func 267) [] [], .fn (.func 268) [] [], .fn (.func 99) [] []] ∧ H' = hk [(1, ⟨50, 3, true, true, v3, [[int a2.Qty, int a2.Value, int a2.Profit]]⟩)])) rfl rfl rfl rfl (yl_call rfl rfl .nil cal274 ?_) (by rintro y _ ⟨_, _, rfl, hc, rfl⟩ <;> exact ⟨rfl, trivial⟩) ?_
  refine pcw (c := _) Tryz.func274 rfl rfl ?_; intro Q hret hnorm
  refine tc tbk 2 (.mk ?_)
  refine sA 2 z277 fun v5 => ?_
  refine tr tbk 4 (.mk ?_)
  refine sS ⟨277, 3, true, true, v5, [[.fn (.func 267) [] [], .fn (.func 268) [] [], .fn (.func 99) [] []]]⟩ sh277 ?_
  refine tr tbk 1 (.mk ?_)
  obtain rfl := nxt_e h1
  refine w_ret (hret _ _ (hk [(1, ⟨50, 3, true, true, v3, [[int a2.Qty, int a2.Value, int a2.Profit]]⟩)]) (.cell rfl (.pt rfl rfl rfl) sh277 rfl .nil) (HK.le ⟨rfl, trivial⟩) ?_)
  exact ⟨(), (), rfl, rfl, rfl⟩
  rintro y _ ⟨_, _, rfl, hc, rfl⟩
  subst hc
  refine eP (fun H hH => yv_field rfl fp277_0 sh167 rfl rfl) ?_
  obtain ⟨x6, e6, h0⟩ := bind_e h0
  refine eP (fun H hH => yv_callP rfl rfl (.cons rfl (.cons rfl .nil)) cal267 (CvL.refl _) (d_fifo_In_c e6)) ?_
  refine eM ?_
  iterate 2 refine eX ?_
  iterate 2 refine eA ?_
  refine de_nil (hK _ ?_)
  refine tc tbk 4 (.mk ?_)
  refine nb tbk h0 fun x7 h0 => ?_
  refine tr tbk 1 (.mk ?_)
  cases x7
  replace h0 := cf h0
  refine tc tbk 4 (.mk ?_)
  obtain ⟨j8, h1, h0⟩ := bind_e h0
  refine rse (Out := fun y H' => (∃ (a : Unit) (k : Unit), a = j8 ∧ y = .agg [.fn (.func 267) [] [], .fn (.func 268) [] [], .fn (.func 99) [] []] ∧ H' = hk [(1, ⟨50, 3, true, true, v3, [[int a2.Qty, int a2.Value, int a2.Profit]]⟩)])) rfl rfl rfl (yl_call rfl rfl .nil cal274 ?_) ?_
  refine pcw (c := _) Tryz.func274 rfl rfl ?_; intro Q hret hnorm
  refine tc tbk 2 (.mk ?_)
  refine sA 3 z277 fun v9 => ?_
  refine tr tbk 4 (.mk ?_)
  refine sS ⟨277, 3, true, true, v9, [[.fn (.func 267) [] [], .fn (.func 268) [] [], .fn (.func 99) [] []]]⟩ sh277 ?_
  refine tr tbk 1 (.mk ?_)
  obtain rfl := nxt_e h1
  refine w_ret (hret _ _ (hk [(1, ⟨50, 3, true, true, v3, [[int a2.Qty, int a2.Value, int a2.Profit]]⟩)]) (.cell rfl (.pt rfl rfl rfl) sh277 rfl .nil) (HK.le ⟨rfl, trivial⟩) ?_)
  exact ⟨(), (), rfl, rfl, rfl⟩
  rintro y _ ⟨_, _, rfl, hc, rfl⟩
  subst hc
  refine tr tbk 2 (.mk ?_)
  obtain ⟨x10, e10, h0⟩ := bind_e h0
  refine sC cal99 (d_fifo_Total_c e10) ?_
  refine tr tbk 3 (.mk ?_)
  refine sA 4 z50 fun v11 => ?_
  refine sS ⟨50, 3, true, true, v11, [[int x10.1.Qty, int x10.1.Value, int x10.1.Profit]]⟩ sh50 ?_
  refine tr tbk 6 (.mk ?_)
  refine nb tbk h0 fun x12 h0 => ?_
  refine tr tbk 1 (.mk ?_)
  cases x12
  replace h0 := cf h0
  refine tc tbk 5 (.mk ?_)
  refine sY (yv_to (y := lst 3 GLayer.av ([x10.1] : List GLayer)) (yv_buildSlice (ps := [(0, _)]) (rows := [[int x10.1.Qty, int x10.1.Value, int x10.1.Profit]]) rfl Tryz.underlying39 bz50 (.cons rfl .nil) (by kernel_rfl) rfl rfl rfl) rfl) ?_
  refine tr tbk 3 (.mk ?_)
  obtain rfl := nxt_e h0
  refine wR hret (rT (rT .nil)) ?_
  exact .refl _
  replace h0 := ct h0
  refine tc tbk 4 (.mk ?_)
  obtain ⟨p13, h0⟩ := asrt_e h0
  refine rse rfl rfl rfl (yl_app0T (g := GLayer.av) (m := a1) 5 rfl Tryz.underlying39 bz50 by50 rfl rfl rfl rfl (.refl _) (fun _ => rfl) p13) ?_; rintro _ _ ⟨v14, rfl, rfl⟩
  refine tr tbk 4 (.mk ?_)
  obtain rfl := nxt_e h0
  refine wR hret (rT (rT .nil)) ?_
  exact CvL.tup (.cons (cv_lst rfl rfl rfl rfl rfl (Eq.symm rfl)) (.cons (.refl _) .nil))
  replace h0 := ct h0
  refine tc tbk 8 (.mk ?_)
  obtain rfl := nxt_e h0
  refine wR hret (rT (rT .nil)) ?_
  exact .refl _
def d_stdcost_In (n : Nat) (a1 : List GLayer) (a2 : GLayer) (a3 : Int) : Option ((List GLayer) × Int × Int) :=
asrt (a1.length ≤ 68719476736) <|
(show Option (Bool) from
(d_stdcost_rate_fits a3).bind fun x8 =>
bnd (!x8) fun x9 =>
cond x9 (some (true : Bool)) (bnd (decide (a2.Qty < 1)) fun x10 =>
cond x10 (some (true : Bool)) (bnd (decide (a2.Value < 0)) fun x11 =>
some (x11 : Bool)))).bind <| fun y0_1 =>
cond y0_1 (some ((a1 : List GLayer), (0 : Int), (1 : Int))) ((d_stdcost_rate_of n a3 a2.Qty).bind fun x12 =>
(show Option (Bool) from
bnd (decide (x12.2 ≠ 0)) fun x14 =>
cond x14 (some (true : Bool)) (bnd (decide (a2.Value > 288230376151711744)) fun x15 =>
some (x15 : Bool))).bind <| fun y1_1 =>
cond y1_1 (some ((a1 : List GLayer), (0 : Int), (2 : Int))) (bnd (w64 (a2.Value - x12.1)) fun x16 =>
(show Option (((List GLayer)) ⊕ (Int) ⊕ (Int)) from
(show Option ((Unit)) from
some ()).bind <| fun _ =>
(show Option (((List GLayer)) ⊕ (Int)) from
asrt (a1.length ≤ 68719476736) <|
(show Option (Bool) from
bnd (decide (a2.Qty < 1)) fun x26 =>
cond x26 (some (true : Bool)) (bnd (decide (x12.1 < 0)) fun x27 =>
some (x27 : Bool))).bind <| fun y3_1 =>
cond y3_1 (some (.inr (1 : Int))) (bnd (decide ((a1.length : Int) ≥ 30)) fun x28 =>
cond x28 (some (.inr (6 : Int))) (asrt (a1.length ≤ 68719476736) <|
bnd (a1 ++ ([(⟨a2.Qty, x12.1, a2.Profit⟩ : GLayer)] : List GLayer)) fun x31 =>
asrt (x31.length ≤ 68719476736) <|
(d_fifo_Right n x31).bind fun x34 =>
bnd (!x34) fun x35 =>
cond x35 (some (.inr (2 : Int))) (some (.inl (x31 : List GLayer)))))).bind <| selr (fun y4_2 =>
(show Option ((Unit)) from
some ()).bind <| fun _ =>
(d_fifo_Total n y4_2).bind fun x38 =>
bnd (decide (x38.2 ≠ 0)) fun x40 =>
cond x40 (asrt (a1.length ≤ 68719476736) <|
some (.inr (.inl (x38.2 : Int)))) (some (.inl (([x38.1] : List GLayer) : List GLayer)))) <| fun y5_2 =>
bnd (decide (y5_2 ≠ 0)) fun x43 =>
cond x43 (some (.inr (.inr (y5_2 : Int)))) ((show Option ((Unit)) from
some ()).bind <| fun _ =>
(d_fifo_Total n a1).bind fun x46 =>
bnd (decide (x46.2 ≠ 0)) fun x48 =>
cond x48 (asrt (a1.length ≤ 68719476736) <|
some (.inr (.inl (x46.2 : Int)))) (some (.inl (([x46.1] : List GLayer) : List GLayer))))).bind <| selr (fun y10_1 =>
some ((y10_1 : List GLayer), (x16 : Int), (0 : Int))) <| selr (fun y11_2 =>
bnd (decide (y11_2 ≠ 0)) fun x51 =>
cond x51 (some ((a1 : List GLayer), (0 : Int), (y11_2 : Int))) (some ((a1 : List GLayer), (x16 : Int), (0 : Int)))) <| fun y12_2 =>
bnd (decide (y12_2 ≠ 0)) fun x52 =>
cond x52 (some ((a1 : List GLayer), (0 : Int), (y12_2 : Int))) (some ((a1 : List GLayer), (x16 : Int), (0 : Int)))))
theorem d_stdcost_In_c {n : Nat} {a1 : List GLayer} {a2 : GLayer} {a3 : Int} {r : (List GLayer) × Int × Int} (h0 : d_stdcost_In n a1 a2 a3 = some r) : PP Tryz.prog 281 [lst 3 GLayer.av a1, .agg (GLayer.av a2), int a3] (fun y => y = .tup [lst 3 GLayer.av r.1, int r.2.1, int r.2.2]) := by
  unfold d_stdcost_In at h0
  refine pp_of_pc (R0 := fun y H => Cv (frzH H) y (.tup [lst 3 GLayer.av r.1, int r.2.1, int r.2.2])) ?_ (fun y H hc => ⟨_, rfl, .tup (pvl3 ((pvLs GLayer.pvc) (r.1)) (pvI (r.2.1)) (pvI (r.2.2))), hc⟩)
  refine pcw (c := _) Tryz.func281 rfl rfl ?_; intro Q hret hnorm
  refine tc tbk 2 (.mk ?_)
  refine sB 1 fun v4 => ?_
  refine tr tbk 7 (.mk ?_)
  obtain ⟨p5, h0⟩ := asrt_e h0
  refine rse rfl rfl rfl (yl_call rfl rfl (.cons rfl .nil) cal59 (pc_cv (clone59_c (id := 2) (l := a1) rfl p5) (.cons (.refl _) .nil))) ?_; rintro _ _ ⟨v6, rfl, rfl⟩
  refine tr tbk 9 (.mk ?_)
  refine jn h0 [0, 2, 4, 6, 7, 8, 10] [1, 2] (fun (a : Bool) (k : Unit) => [(30, boo a)]) (fun a k => []) ⟨fun j7 h1 => ?_, ?_⟩
  refine tc tbk 3 (.mk ?_)
  obtain ⟨x8, e8, h1⟩ := bind_e h1
  refine sC cal175 (d_stdcost_rate_fits_c e8) ?_
  refine nb tbk h1 fun x9 h1 => ?_
  refine tr tbk 1 (.mk ?_)
  cases x9
  replace h1 := cf h1
  refine tr tbk 2 (.mk ?_)
  refine nb tbk h1 fun x10 h1 => ?_
  refine tr tbk 2 (.mk ?_)
  cases x10
  replace h1 := cf h1
  refine tr tbk 2 (.mk ?_)
  refine nb tbk h1 fun x11 h1 => ?_
  refine tr tbk 2 (.mk ?_)
  exact lf h1 () leA
  replace h1 := ct h1
  refine tr tbk 5 (.mk ?_)
  exact lf h1 () leA
  replace h1 := ct h1
  refine tr tbk 10 (.mk ?_)
  exact lf h1 () leA
  rintro y0_1 _ h0
  cases y0_1
  replace h0 := cf h0
  refine tc tbk 8 (.mk ?_)
  obtain ⟨x12, e12, h0⟩ := bind_e h0
  refine sC cal176 (d_stdcost_rate_of_c e12) ?_
  refine tr tbk 8 (.mk ?_)
  refine jn h0 [0, 4, 6, 7, 8, 11] [1, 2] (fun (a : Bool) (k : Unit) => [(46, boo a)]) (fun a k => []) ⟨fun j13 h1 => ?_, ?_⟩
  refine tc tbk 2 (.mk ?_)
  refine nb tbk h1 fun x14 h1 => ?_
  refine tr tbk 1 (.mk ?_)
  cases x14
  replace h1 := cf h1
  refine tr tbk 2 (.mk ?_)
  refine nb tbk h1 fun x15 h1 => ?_
  refine tr tbk 2 (.mk ?_)
  exact lf h1 () leA
  replace h1 := ct h1
  refine tr tbk 5 (.mk ?_)
  exact lf h1 () leA
  rintro y1_1 _ h0
  cases y1_1
  replace h0 := cf h0
  refine tc tbk 7 (.mk ?_)
  refine ni tbk h0 fun x16 h0 => ?_
  refine tr tbk 6 (.mk ?_)
  refine sS ⟨50, 3, true, true, v4, [[int a2.Qty, int x12.1, int a2.Profit]]⟩ sh3 ?_
  refine tr tbk 5 (.mk ?_)
  obtain ⟨j17, h1, h0⟩ := bind_e h0
  refine rse (Out := fun y H' => (∃ (a : (List GLayer)) (k : Unit), (.inl a) = j17 ∧ y = .tup [lst 3 GLayer.av a, int 0] ∧ H' = hk [(1, ⟨50, 3, true, true, v4, [[int a2.Qty, int x12.1, int a2.Profit]]⟩), (2, ⟨50, 3, false, true, v6, a1.map GLayer.av⟩)]) ∨ (∃ (a : Int) (k : Nat), (.inr (.inl a)) = j17 ∧ y = .tup [.sl 10 k 0 a1.length, int a] ∧ H' = hk [(1, ⟨50, 3, true, true, v4, [[int a2.Qty, int x12.1, int a2.Profit]]⟩), (2, ⟨50, 3, false, true, v6, a1.map GLayer.av⟩), (10, ⟨50, 3, true, true, k, a1.map GLayer.av⟩)]) ∨ (∃ (a : Int) (k : Nat), (.inr (.inr a)) = j17 ∧ y = .tup [.sl 6 k 0 a1.length, int a] ∧ H' = hk [(1, ⟨50, 3, true, true, v4, [[int a2.Qty, int x12.1, int a2.Profit]]⟩), (2, ⟨50, 3, false, true, v6, a1.map GLayer.av⟩), (6, ⟨50, 3, false, true, k, a1.map GLayer.av⟩)])) rfl rfl rfl (yl_call rfl rfl (.cons rfl (.cons rfl .nil)) cal272 ?_) ?_
  refine pcw (c := _) Tryz.func272 rfl rfl ?_; intro Q hret hnorm
  refine tc tbk 2 (.mk ?_)
  refine sB 3 fun v18 => ?_
  refine tr tbk 4 (.mk ?_)
  refine c_drawE [0, 1, 0, 0, 15, 31, 63, 63, 127, 511] (rl [(3, [3])] []) (rl [(4, [])] [3]) (rl [(0, false), (4, false)] true) [2, 3, 0, 1, 4, 5, 6, 7, 8, 9] mixed (by kernel_rfl) ?_; intro K hK
  refine eM ?_
  refine eL sh50 ?_
  obtain ⟨j19, h2, h1⟩ := bind_e h1
  refine de_eff (Out := fun y H' => (∃ (a : Unit) (k : Unit), a = j19 ∧ y = .agg [.fn (.func 267) [] [], .fn (.func 268) [] [], .fn (.func 99) [] []] ∧ H' = hk [(1, ⟨50, 3, true, true, v4, [[int a2.Qty, int x12.1, int a2.Profit]]⟩), (2, ⟨50, 3, true, true, v6, a1.map GLayer.av⟩), (3, ⟨50, 3, true, true, v18, [[int a2.Qty, int x12.1, int a2.Profit]]⟩)])) rfl rfl rfl rfl (yl_call rfl rfl .nil cal274 ?_) (by rintro y _ ⟨_, _, rfl, hc, rfl⟩ <;> exact ⟨rfl, trivial⟩) ?_
  refine pcw (c := _) Tryz.func274 rfl rfl ?_; intro Q hret hnorm
  refine tc tbk 2 (.mk ?_)
  refine sA 4 z277 fun v20 => ?_
  refine tr tbk 4 (.mk ?_)
  refine sS ⟨277, 3, true, true, v20, [[.fn (.func 267) [] [], .fn (.func 268) [] [], .fn (.func 99) [] []]]⟩ sh277 ?_
  refine tr tbk 1 (.mk ?_)
  obtain rfl := nxt_e h2
  refine w_ret (hret _ _ (hk [(1, ⟨50, 3, true, true, v4, [[int a2.Qty, int x12.1, int a2.Profit]]⟩), (2, ⟨50, 3, true, true, v6, a1.map GLayer.av⟩), (3, ⟨50, 3, true, true, v18, [[int a2.Qty, int x12.1, int a2.Profit]]⟩)]) (.cell rfl (.pt rfl rfl rfl) sh277 rfl .nil) (HK.le ⟨rfl, rfl, rfl, trivial⟩) ?_)
  exact ⟨(), (), rfl, rfl, rfl⟩
  rintro y _ ⟨_, _, rfl, hc, rfl⟩
  subst hc
  refine eP (fun H hH => yv_field rfl fp277_0 sh167 rfl rfl) ?_
  obtain ⟨j21, h2, h1⟩ := bind_e h1
  refine de_eff (Out := fun y H' => (∃ (a : (List GLayer)) (k : Nat), (.inl a) = j21 ∧ y = .tup [.sl 7 k 0 a.length, int 0] ∧ H' = hk [(1, ⟨50, 3, true, true, v4, [[int a2.Qty, int x12.1, int a2.Profit]]⟩), (2, ⟨50, 3, false, true, v6, a1.map GLayer.av⟩), (3, ⟨50, 3, true, true, v18, [[int a2.Qty, int x12.1, int a2.Profit]]⟩), (7, ⟨50, 3, true, true, k, a.map GLayer.av⟩)]) ∨ (∃ (a : Int) (k : Nat), (.inr a) = j21 ∧ y = .tup [.sl 6 k 0 a1.length, int a] ∧ H' = hk [(1, ⟨50, 3, true, true, v4, [[int a2.Qty, int x12.1, int a2.Profit]]⟩), (2, ⟨50, 3, false, true, v6, a1.map GLayer.av⟩), (3, ⟨50, 3, true, true, v18, [[int a2.Qty, int x12.1, int a2.Profit]]⟩), (6, ⟨50, 3, false, true, k, a1.map GLayer.av⟩)])) rfl rfl rfl rfl (yl_call rfl rfl (.cons rfl (.cons rfl .nil)) cal267 ?_) (by rintro y _ (⟨y4_2, w4_1, rfl, hc, rfl⟩ | ⟨y5_2, w5_1, rfl, hc, rfl⟩) <;> exact trivial) ?_
  refine pcw (c := _) Tryz.func267 rfl rfl ?_; intro Q hret hnorm
  refine tc tbk 2 (.mk ?_)
  refine sB 5 fun v22 => ?_
  refine tr tbk 6 (.mk ?_)
  obtain ⟨p23, h2⟩ := asrt_e h2
  refine rse rfl rfl rfl (Yield.frz 2 rfl (yl_call rfl rfl (.cons rfl .nil) cal59 (pc_cv (clone59_c (id := 6) (l := a1) rfl p23) (.cons (cv_lst rfl rfl rfl rfl rfl (Eq.symm rfl)) .nil)))) ?_; rintro _ _ ⟨v24, rfl, rfl⟩
  refine rs_freeze 6 rfl ?_
  refine tr tbk 5 (.mk ?_)
  refine jn h2 [0, 3, 4, 5] [1, 2, 3, 5, 6] (fun (a : Bool) (k : Unit) => [(9, boo a)]) (fun a k => []) ⟨fun j25 h3 => ?_, ?_⟩
  refine tc tbk 3 (.mk ?_)
  refine nb tbk h3 fun x26 h3 => ?_
  refine tr tbk 1 (.mk ?_)
  cases x26
  replace h3 := cf h3
  refine tr tbk 2 (.mk ?_)
  refine nb tbk h3 fun x27 h3 => ?_
  refine tr tbk 3 (.mk ?_)
  exact lf h3 () leA
  replace h3 := ct h3
  refine tr tbk 6 (.mk ?_)
  exact lf h3 () leA
  rintro y3_1 _ h2
  cases y3_1
  replace h2 := cf h2
  refine tc tbk 4 (.mk ?_)
  refine sY (yv_len_sl rfl Tryz.underlying39 rfl (.sl rfl rfl)) ?_
  refine nb tbk h2 fun x28 h2 => ?_
  refine tr tbk 2 (.mk ?_)
  cases x28
  replace h2 := cf h2
  refine tc tbk 4 (.mk ?_)
  refine c_drawE [0, 1, 0, 4, 15, 31] (rl [(2, [5])] []) (rl [(4, [])] [5]) (rl [(1, false), (4, false)] true) [0, 2, 3, 1, 4, 5] mixed (by kernel_rfl) ?_; intro K hK
  refine eM ?_
  refine eL sh50 ?_
  refine eP (fun H hH => yv_to (y := lst 3 GLayer.av ([(⟨a2.Qty, x12.1, a2.Profit⟩ : GLayer)] : List GLayer)) (yv_buildSlice (ps := [(0, _)]) (rows := [[int a2.Qty, int x12.1, int a2.Profit]]) rfl Tryz.underlying39 bz50 (.cons rfl .nil) (by kernel_rfl) rfl rfl rfl) rfl) ?_
  obtain ⟨p29, h2⟩ := asrt_e h2
  refine de_eff rfl rfl rfl rfl (yl_call rfl rfl (.cons rfl .nil) cal59 (pc_cv (clone59_c (id := 7) (l := a1) rfl p29) (.cons (cv_lst rfl rfl rfl rfl rfl (Eq.symm rfl)) .nil))) (by rintro _ _ ⟨v30, rfl, rfl⟩; exact ⟨rfl, trivial⟩) ?_; rintro _ _ ⟨v30, rfl, rfl⟩
  obtain ⟨x31, e31, h2⟩ := bnd_e h2
  obtain ⟨p32, h2⟩ := asrt_e h2
  refine de_eff rfl rfl rfl rfl (yl_appT (g := GLayer.av) (l := a1) (m := ([(⟨a2.Qty, x12.1, a2.Profit⟩ : GLayer)] : List GLayer)) .any rfl Tryz.underlying39 bz50 by50 rfl rfl rfl rfl rfl rfl rfl rfl rfl rfl (Eq.symm rfl) (.refl _) (fun _ => rfl) e31 p32) (by rintro _ _ ⟨v33, -, rfl, rfl⟩; exact trivial) ?_; rintro _ _ ⟨v33, -, rfl, rfl⟩
  refine eA ?_
  refine de_nil (hK _ ?_)
  refine tc tbk 4 (.mk ?_)
  obtain ⟨x34, e34, h2⟩ := bind_e h2
  refine sY (yv_callT (v := boo x34) rfl rfl (.cons rfl .nil) cal201 (.cons (cv_lst rfl rfl rfl rfl rfl (Eq.symm rfl)) .nil) (d_fifo_Right_c e34) rfl) ?_
  refine nb tbk h2 fun x35 h2 => ?_
  refine tr tbk 1 (.mk ?_)
  cases x35
  replace h2 := cf h2
  refine tc tbk 8 (.mk ?_)
  obtain rfl := nxt_e h2
  refine w_ret (hret _ _ (hk [(1, ⟨50, 3, true, true, v4, [[int a2.Qty, int x12.1, int a2.Profit]]⟩), (2, ⟨50, 3, false, true, v6, a1.map GLayer.av⟩), (3, ⟨50, 3, true, true, v18, [[int a2.Qty, int x12.1, int a2.Profit]]⟩), (7, ⟨50, 3, true, true, v33, x31.map GLayer.av⟩)]) (.tmp rfl (.tmp rfl .nil)) (HK.le ⟨rfl, rfl, rfl, rfl, trivial⟩) ?_)
  exact (.inl ⟨x31, v33, rfl, rfl, rfl⟩)
  replace h2 := ct h2
  refine tc tbk 7 (.mk ?_)
  obtain rfl := nxt_e h2
  refine w_ret (hret _ _ (hk [(1, ⟨50, 3, true, true, v4, [[int a2.Qty, int x12.1, int a2.Profit]]⟩), (2, ⟨50, 3, false, true, v6, a1.map GLayer.av⟩), (3, ⟨50, 3, true, true, v18, [[int a2.Qty, int x12.1, int a2.Profit]]⟩), (6, ⟨50, 3, false, true, v24, a1.map GLayer.av⟩)]) (.tmp rfl (.tmp rfl .nil)) (HK.le ⟨rfl, rfl, rfl, rfl, trivial⟩) ?_)
  exact (.inr ⟨2, v24, rfl, rfl, rfl⟩)
  replace h2 := ct h2
  refine tc tbk 7 (.mk ?_)
  obtain rfl := nxt_e h2
  refine w_ret (hret _ _ (hk [(1, ⟨50, 3, true, true, v4, [[int a2.Qty, int x12.1, int a2.Profit]]⟩), (2, ⟨50, 3, false, true, v6, a1.map GLayer.av⟩), (3, ⟨50, 3, true, true, v18, [[int a2.Qty, int x12.1, int a2.Profit]]⟩), (6, ⟨50, 3, false, true, v24, a1.map GLayer.av⟩)]) (.tmp rfl (.tmp rfl .nil)) (HK.le ⟨rfl, rfl, rfl, rfl, trivial⟩) ?_)
  exact (.inr ⟨6, v24, rfl, rfl, rfl⟩)
  replace h2 := ct h2
  refine tc tbk 7 (.mk ?_)
  obtain rfl := nxt_e h2
  refine w_ret (hret _ _ (hk [(1, ⟨50, 3, true, true, v4, [[int a2.Qty, int x12.1, int a2.Profit]]⟩), (2, ⟨50, 3, false, true, v6, a1.map GLayer.av⟩), (3, ⟨50, 3, true, true, v18, [[int a2.Qty, int x12.1, int a2.Profit]]⟩), (6, ⟨50, 3, false, true, v24, a1.map GLayer.av⟩)]) (.tmp rfl (.tmp rfl .nil)) (HK.le ⟨rfl, rfl, rfl, rfl, trivial⟩) ?_)
  exact (.inr ⟨1, v24, rfl, rfl, rfl⟩)
  rintro y _ (⟨y4_2, w4_1, rfl, hc, rfl⟩ | ⟨y5_2, w5_1, rfl, hc, rfl⟩)
  replace h1 := selr_l h1
  subst hc
  refine eM ?_
  iterate 2 refine eX ?_
  iterate 2 refine eA ?_
  refine de_nil (hK _ ?_)
  refine tc tbk 4 (.mk ?_)
  refine sY (yv_to (y := boo false) (yv_neq rfl rfl rfl) (congrArg boo (by decide))) ?_
  refine tr tbk 5 (.mk ?_)
  obtain ⟨j36, h2, h1⟩ := bind_e h1
  refine rse (Out := fun y H' => (∃ (a : Unit) (k : Unit), a = j36 ∧ y = .agg [.fn (.func 267) [] [], .fn (.func 268) [] [], .fn (.func 99) [] []] ∧ H' = hk [(1, ⟨50, 3, true, true, v4, [[int a2.Qty, int x12.1, int a2.Profit]]⟩), (2, ⟨50, 3, false, true, v6, a1.map GLayer.av⟩), (3, ⟨50, 3, true, true, v18, [[int a2.Qty, int x12.1, int a2.Profit]]⟩), (7, ⟨50, 3, true, true, w4_1, y4_2.map GLayer.av⟩)])) rfl rfl rfl (yl_call rfl rfl .nil cal274 ?_) ?_
  refine pcw (c := _) Tryz.func274 rfl rfl ?_; intro Q hret hnorm
  refine tc tbk 2 (.mk ?_)
  refine sA 8 z277 fun v37 => ?_
  refine tr tbk 4 (.mk ?_)
  refine sS ⟨277, 3, true, true, v37, [[.fn (.func 267) [] [], .fn (.func 268) [] [], .fn (.func 99) [] []]]⟩ sh277 ?_
  refine tr tbk 1 (.mk ?_)
  obtain rfl := nxt_e h2
  refine w_ret (hret _ _ (hk [(1, ⟨50, 3, true, true, v4, [[int a2.Qty, int x12.1, int a2.Profit]]⟩), (2, ⟨50, 3, false, true, v6, a1.map GLayer.av⟩), (3, ⟨50, 3, true, true, v18, [[int a2.Qty, int x12.1, int a2.Profit]]⟩), (7, ⟨50, 3, true, true, w4_1, y4_2.map GLayer.av⟩)]) (.cell rfl (.pt rfl rfl rfl) sh277 rfl .nil) (HK.le ⟨rfl, rfl, rfl, rfl, trivial⟩) ?_)
  exact ⟨(), (), rfl, rfl, rfl⟩
  rintro y _ ⟨_, _, rfl, hc, rfl⟩
  subst hc
  refine tr tbk 2 (.mk ?_)
  obtain ⟨x38, e38, h1⟩ := bind_e h1
  refine sY (yv_callT (v := .tup [.agg [int x38.1.Qty, int x38.1.Value, int x38.1.Profit], int x38.2]) rfl rfl (.cons rfl .nil) cal99 (.cons (cv_lst rfl rfl rfl rfl rfl (Eq.symm rfl)) .nil) (d_fifo_Total_c e38) rfl) ?_
  refine tr tbk 3 (.mk ?_)
  refine sA 9 z50 fun v39 => ?_
  refine sS ⟨50, 3, true, true, v39, [[int x38.1.Qty, int x38.1.Value, int x38.1.Profit]]⟩ sh50 ?_
  refine tr tbk 6 (.mk ?_)
  refine nb tbk h1 fun x40 h1 => ?_
  refine tr tbk 1 (.mk ?_)
  cases x40
  replace h1 := cf h1
  refine tc tbk 5 (.mk ?_)
  refine sY (yv_to (y := lst 3 GLayer.av ([x38.1] : List GLayer)) (yv_buildSlice (ps := [(0, _)]) (rows := [[int x38.1.Qty, int x38.1.Value, int x38.1.Profit]]) rfl Tryz.underlying39 bz50 (.cons rfl .nil) (by kernel_rfl) rfl rfl rfl) rfl) ?_
  refine tr tbk 3 (.mk ?_)
  obtain rfl := nxt_e h1
  refine w_ret (hret _ _ (hk [(1, ⟨50, 3, true, true, v4, [[int a2.Qty, int x12.1, int a2.Profit]]⟩), (2, ⟨50, 3, false, true, v6, a1.map GLayer.av⟩)]) (.tmp rfl (.tmp rfl .nil)) (HK.le ⟨rfl, rfl, trivial⟩) ?_)
  exact (.inl ⟨([x38.1] : List GLayer), (), rfl, rfl, rfl⟩)
  replace h1 := ct h1
  refine tc tbk 4 (.mk ?_)
  obtain ⟨p41, h1⟩ := asrt_e h1
  refine rse rfl rfl rfl (yl_app0T (g := GLayer.av) (m := a1) 10 rfl Tryz.underlying39 bz50 by50 rfl rfl rfl rfl (cv_lst rfl rfl rfl rfl rfl (Eq.symm rfl)) (fun _ => rfl) p41) ?_; rintro _ _ ⟨v42, rfl, rfl⟩
  refine tr tbk 4 (.mk ?_)
  obtain rfl := nxt_e h1
  refine w_ret (hret _ _ (hk [(1, ⟨50, 3, true, true, v4, [[int a2.Qty, int x12.1, int a2.Profit]]⟩), (2, ⟨50, 3, false, true, v6, a1.map GLayer.av⟩), (10, ⟨50, 3, true, true, v42, a1.map GLayer.av⟩)]) (.tmp rfl (.tmp rfl .nil)) (HK.le ⟨rfl, rfl, rfl, trivial⟩) ?_)
  exact (.inr (.inl ⟨x38.2, v42, rfl, rfl, rfl⟩))
  replace h1 := selr_r h1
  subst hc
  refine eM ?_
  iterate 2 refine eX ?_
  iterate 2 refine eA ?_
  refine de_nil (hK _ ?_)
  refine tc tbk 4 (.mk ?_)
  refine nb tbk h1 fun x43 h1 => ?_
  refine tr tbk 1 (.mk ?_)
  cases x43
  replace h1 := cf h1
  refine tc tbk 4 (.mk ?_)
  obtain ⟨j44, h2, h1⟩ := bind_e h1
  refine rse (Out := fun y H' => (∃ (a : Unit) (k : Unit), a = j44 ∧ y = .agg [.fn (.func 267) [] [], .fn (.func 268) [] [], .fn (.func 99) [] []] ∧ H' = hk [(1, ⟨50, 3, true, true, v4, [[int a2.Qty, int x12.1, int a2.Profit]]⟩), (2, ⟨50, 3, false, true, v6, a1.map GLayer.av⟩), (3, ⟨50, 3, true, true, v18, [[int a2.Qty, int x12.1, int a2.Profit]]⟩), (6, ⟨50, 3, false, true, w5_1, a1.map GLayer.av⟩)])) rfl rfl rfl (yl_call rfl rfl .nil cal274 ?_) ?_
  refine pcw (c := _) Tryz.func274 rfl rfl ?_; intro Q hret hnorm
  refine tc tbk 2 (.mk ?_)
  refine sA 8 z277 fun v45 => ?_
  refine tr tbk 4 (.mk ?_)
  refine sS ⟨277, 3, true, true, v45, [[.fn (.func 267) [] [], .fn (.func 268) [] [], .fn (.func 99) [] []]]⟩ sh277 ?_
  refine tr tbk 1 (.mk ?_)
  obtain rfl := nxt_e h2
  refine w_ret (hret _ _ (hk [(1, ⟨50, 3, true, true, v4, [[int a2.Qty, int x12.1, int a2.Profit]]⟩), (2, ⟨50, 3, false, true, v6, a1.map GLayer.av⟩), (3, ⟨50, 3, true, true, v18, [[int a2.Qty, int x12.1, int a2.Profit]]⟩), (6, ⟨50, 3, false, true, w5_1, a1.map GLayer.av⟩)]) (.cell rfl (.pt rfl rfl rfl) sh277 rfl .nil) (HK.le ⟨rfl, rfl, rfl, rfl, trivial⟩) ?_)
  exact ⟨(), (), rfl, rfl, rfl⟩
  rintro y _ ⟨_, _, rfl, hc, rfl⟩
  subst hc
  refine tr tbk 2 (.mk ?_)
  obtain ⟨x46, e46, h1⟩ := bind_e h1
  refine sY (yv_callP rfl rfl (.cons rfl .nil) cal99 (.cons (cv_lst rfl rfl rfl rfl rfl (Eq.symm rfl)) .nil) (d_fifo_Total_c e46)) ?_
  refine tr tbk 3 (.mk ?_)
  refine sA 9 z50 fun v47 => ?_
  refine sS ⟨50, 3, true, true, v47, [[int x46.1.Qty, int x46.1.Value, int x46.1.Profit]]⟩ sh50 ?_
  refine tr tbk 6 (.mk ?_)
  refine nb tbk h1 fun x48 h1 => ?_
  refine tr tbk 1 (.mk ?_)
  cases x48
  replace h1 := cf h1
  refine tc tbk 5 (.mk ?_)
  refine sY (yv_to (y := lst 3 GLayer.av ([x46.1] : List GLayer)) (yv_buildSlice (ps := [(0, _)]) (rows := [[int x46.1.Qty, int x46.1.Value, int x46.1.Profit]]) rfl Tryz.underlying39 bz50 (.cons rfl .nil) (by kernel_rfl) rfl rfl rfl) rfl) ?_
  refine tr tbk 3 (.mk ?_)
  obtain rfl := nxt_e h1
  refine w_ret (hret _ _ (hk [(1, ⟨50, 3, true, true, v4, [[int a2.Qty, int x12.1, int a2.Profit]]⟩), (2, ⟨50, 3, false, true, v6, a1.map GLayer.av⟩)]) (.tmp rfl (.tmp rfl .nil)) (HK.le ⟨rfl, rfl, trivial⟩) ?_)
  exact (.inl ⟨([x46.1] : List GLayer), (), rfl, rfl, rfl⟩)
  replace h1 := ct h1
  refine tc tbk 4 (.mk ?_)
  obtain ⟨p49, h1⟩ := asrt_e h1
  refine rse rfl rfl rfl (yl_app0T (g := GLayer.av) (m := a1) 10 rfl Tryz.underlying39 bz50 by50 rfl rfl rfl rfl (cv_lst rfl rfl rfl rfl rfl (Eq.symm rfl)) (fun _ => rfl) p49) ?_; rintro _ _ ⟨v50, rfl, rfl⟩
  refine tr tbk 4 (.mk ?_)
  obtain rfl := nxt_e h1
  refine w_ret (hret _ _ (hk [(1, ⟨50, 3, true, true, v4, [[int a2.Qty, int x12.1, int a2.Profit]]⟩), (2, ⟨50, 3, false, true, v6, a1.map GLayer.av⟩), (10, ⟨50, 3, true, true, v50, a1.map GLayer.av⟩)]) (.tmp rfl (.tmp rfl .nil)) (HK.le ⟨rfl, rfl, rfl, trivial⟩) ?_)
  exact (.inr (.inl ⟨x46.2, v50, rfl, rfl, rfl⟩))
  replace h1 := ct h1
  refine tc tbk 8 (.mk ?_)
  obtain rfl := nxt_e h1
  refine w_ret (hret _ _ (hk [(1, ⟨50, 3, true, true, v4, [[int a2.Qty, int x12.1, int a2.Profit]]⟩), (2, ⟨50, 3, false, true, v6, a1.map GLayer.av⟩), (6, ⟨50, 3, false, true, w5_1, a1.map GLayer.av⟩)]) (.tmp rfl (.tmp rfl .nil)) (HK.le ⟨rfl, rfl, rfl, trivial⟩) ?_)
  exact (.inr (.inr ⟨y5_2, w5_1, rfl, rfl, rfl⟩))
  rintro y _ (⟨y10_1, _, rfl, hc, rfl⟩ | ⟨y11_2, w11_1, rfl, hc, rfl⟩ | ⟨y12_2, w12_1, rfl, hc, rfl⟩)
  replace h0 := selr_l h0
  subst hc
  refine tr tbk 10 (.mk ?_)
  refine sY (yv_to (y := boo false) (yv_neq rfl rfl rfl) (congrArg boo (by decide))) ?_
  refine tr tbk 11 (.mk ?_)
  obtain rfl := nxt_e h0
  refine wR hret (rT (rT (rT .nil))) ?_
  exact .refl _
  replace h0 := selr_r h0
  replace h0 := selr_l h0
  subst hc
  refine tr tbk 10 (.mk ?_)
  refine nb tbk h0 fun x51 h0 => ?_
  refine tr tbk 1 (.mk ?_)
  cases x51
  replace h0 := cf h0
  refine tc tbk 10 (.mk ?_)
  obtain rfl := nxt_e h0
  refine wR hret (rT (rT (rT .nil))) ?_
  exact CvL.tup (.cons (cv_lst rfl rfl rfl rfl rfl (Eq.symm rfl)) (.cons (.refl _) (.cons (.refl _) .nil)))
  replace h0 := ct h0
  refine tc tbk 9 (.mk ?_)
  obtain rfl := nxt_e h0
  refine wR hret (rT (rT (rT .nil))) ?_
  exact CvL.tup (.cons (cv_lst rfl rfl rfl rfl rfl (Eq.symm rfl)) (.cons (.refl _) (.cons (.refl _) .nil)))
  replace h0 := selr_r h0
  replace h0 := selr_r h0
  subst hc
  refine tr tbk 10 (.mk ?_)
  refine nb tbk h0 fun x52 h0 => ?_
  refine tr tbk 1 (.mk ?_)
  cases x52
  replace h0 := cf h0
  refine tc tbk 10 (.mk ?_)
  obtain rfl := nxt_e h0
  refine wR hret (rT (rT (rT .nil))) ?_
  exact CvL.tup (.cons (cv_lst rfl rfl rfl rfl rfl (Eq.symm rfl)) (.cons (.refl _) (.cons (.refl _) .nil)))
  replace h0 := ct h0
  refine tc tbk 9 (.mk ?_)
  obtain rfl := nxt_e h0
  refine wR hret (rT (rT (rT .nil))) ?_
  exact CvL.tup (.cons (cv_lst rfl rfl rfl rfl rfl (Eq.symm rfl)) (.cons (.refl _) (.cons (.refl _) .nil)))
  replace h0 := ct h0
  refine tc tbk 8 (.mk ?_)
  obtain rfl := nxt_e h0
  refine wR hret (rT (rT (rT .nil))) ?_
  exact CvL.tup (.cons (cv_lst rfl rfl rfl rfl rfl (Eq.symm rfl)) (.cons (.refl _) (.cons (.refl _) .nil)))
  replace h0 := ct h0
  refine tc tbk 8 (.mk ?_)
  obtain rfl := nxt_e h0
  refine wR hret (rT (rT (rT .nil))) ?_
  exact CvL.tup (.cons (cv_lst rfl rfl rfl rfl rfl (Eq.symm rfl)) (.cons (.refl _) (.cons (.refl _) .nil)))
def d_pavg_In (n : Nat) (a1 : GPool) (a2 : GLayer) : Option (GPool × Int) :=
(d_mavg_In n a1.Layers a2).bind fun x6 =>
(d_pavg_own a1 x6.1).bind fun x7 =>
some ((x7 : GPool), (x6.2 : Int))
theorem d_pavg_In_c {n : Nat} {a1 : GPool} {a2 : GLayer} {r : GPool × Int} (h0 : d_pavg_In n a1 a2 = some r) : PP Tryz.prog 277 [.agg (GPool.av a1), .agg (GLayer.av a2)] (fun y => y = .tup [.agg (GPool.av r.1), int r.2]) := by
  unfold d_pavg_In at h0
  refine pp_of_pc (R0 := fun y H => Cv (frzH H) y (.tup [.agg (GPool.av r.1), int r.2])) ?_ (fun y H hc => ⟨_, rfl, .tup (pvl2 ((fun (a : GPool) => PV.agg (GPool.pvc a)) (r.1)) (pvI (r.2))), hc⟩)
  refine pcw (c := _) Tryz.func277 rfl rfl ?_; intro Q hret hnorm
  refine tc tbk 2 (.mk ?_)
  refine sB 1 fun v3 => ?_
  refine sB 2 fun v4 => ?_
  refine sA 3 z42 fun v5 => ?_
  refine tr tbk 7 (.mk ?_)
  obtain ⟨x6, e6, h0⟩ := bind_e h0
  refine sC cal272 (d_mavg_In_c e6) ?_
  refine tr tbk 10 (.mk ?_)
  obtain ⟨x7, e7, h0⟩ := bind_e h0
  refine sC cal147 (d_pavg_own_c e7) ?_
  refine tr tbk 1 (.mk ?_)
  refine sS ⟨42, 4, true, true, v5, [[lst 3 GLayer.av x7.Layers, int x7.Pend.a0, int x7.Pend.a1, int x7.Pend.a2]]⟩ sh42 ?_
  refine tr tbk 2 (.mk ?_)
  obtain rfl := nxt_e h0
  refine wR hret (rC sh42 (rT .nil)) ?_
  exact .refl _
def d_pool_In (n : Nat) (a1 : Int) (a2 : Int) (a3 : GPool) (a4 : GLayer) : Option (GPool × Int × Int) :=
(show Option ((Unit) ⊕ (Unit) ⊕ (Unit) ⊕ (Unit) ⊕ (Unit)) from
bnd (decide (a1 = 1)) fun x9 =>
cond x9 (some (.inr (.inr (.inr (.inr ()))))) (bnd (decide (a1 = 2)) fun x10 =>
cond x10 (some (.inr (.inr (.inr (.inl ()))))) (bnd (decide (a1 = 3)) fun x11 =>
cond x11 (some (.inr (.inr (.inl ())))) (bnd (decide (a1 = 4)) fun x12 =>
cond x12 (some (.inr (.inl ()))) (some (.inl ())))))).bind <| selr (fun _ =>
(d_pool_own a3).bind fun x13 =>
some ((x13 : GPool), (0 : Int), (12 : Int))) <| selr (fun _ =>
(show Option ((GPool × Int × Int)) from
(d_stdcost_In n a3.Layers a4 a2).bind fun x19 =>
(d_pool_with a3 x19.1).bind fun x20 =>
some ((x20 : GPool), (x19.2.1 : Int), (x19.2.2 : Int))).bind <| p2 fun (y5_1 : GPool) (q0 : Int × Int) => (p2 fun (y5_2 : Int) (y5_3 : Int) =>
bnd (decide (y5_3 ≠ 0)) fun x22 =>
cond x22 ((d_pool_own a3).bind fun x23 =>
some ((x23 : GPool), (0 : Int), (y5_3 : Int))) (some ((y5_1 : GPool), (y5_2 : Int), (0 : Int)))) q0) <| selr (fun _ =>
(show Option ((GPool × Int)) from
(d_pavg_In n a3 a4).bind fun x29 =>
some ((x29.1 : GPool), (x29.2 : Int))).bind <| p2 fun (y6_1 : GPool) (y6_2 : Int) =>
bnd (decide (y6_2 ≠ 0)) fun x31 =>
cond x31 ((d_pool_own a3).bind fun x32 =>
some ((x32 : GPool), (0 : Int), (y6_2 : Int))) (some ((y6_1 : GPool), (0 : Int), (0 : Int)))) <| selr (fun _ =>
(show Option ((GPool × Int)) from
(d_mavg_In n a3.Layers a4).bind fun x38 =>
(d_pool_with a3 x38.1).bind fun x39 =>
some ((x39 : GPool), (x38.2 : Int))).bind <| p2 fun (y7_1 : GPool) (y7_2 : Int) =>
bnd (decide (y7_2 ≠ 0)) fun x41 =>
cond x41 ((d_pool_own a3).bind fun x42 =>
some ((x42 : GPool), (0 : Int), (y7_2 : Int))) (some ((y7_1 : GPool), (0 : Int), (0 : Int)))) <| fun _ =>
(show Option ((GPool × Int)) from
(d_fifo_In n a3.Layers a4).bind fun x48 =>
(d_pool_with a3 x48.1).bind fun x49 =>
some ((x49 : GPool), (x48.2 : Int))).bind <| p2 fun (y8_1 : GPool) (y8_2 : Int) =>
bnd (decide (y8_2 ≠ 0)) fun x51 =>
cond x51 ((d_pool_own a3).bind fun x52 =>
some ((x52 : GPool), (0 : Int), (y8_2 : Int))) (some ((y8_1 : GPool), (0 : Int), (0 : Int)))
theorem d_pool_In_c {n : Nat} {a1 : Int} {a2 : Int} {a3 : GPool} {a4 : GLayer} {r : GPool × Int × Int} (h0 : d_pool_In n a1 a2 a3 a4 = some r) : PP Tryz.prog 47 [int a1, int a2, .agg (GPool.av a3), .agg (GLayer.av a4)] (fun y => y = .tup [.agg (GPool.av r.1), int r.2.1, int r.2.2]) := by
  unfold d_pool_In at h0
  refine pp_of_pc (R0 := fun y H => Cv (frzH H) y (.tup [.agg (GPool.av r.1), int r.2.1, int r.2.2])) ?_ (fun y H hc => ⟨_, rfl, .tup (pvl3 ((fun (a : GPool) => PV.agg (GPool.pvc a)) (r.1)) (pvI (r.2.1)) (pvI (r.2.2))), hc⟩)
  refine pcw (c := _) Tryz.func47 rfl rfl ?_; intro Q hret hnorm
  refine tc tbk 2 (.mk ?_)
  refine sB 1 fun v5 => ?_
  refine sB 2 fun v6 => ?_
  refine sA 3 z42 fun v7 => ?_
  refine tr tbk 7 (.mk ?_)
  obtain ⟨j8, h1, h0⟩ := bind_e h0
  refine rse (Out := fun y H' => (∃ (a : Unit) (k : Unit), (.inl a) = j8 ∧ y = .sc .nilIface ∧ H' = hk [(1, ⟨42, 4, true, true, v5, [[lst 3 GLayer.av a3.Layers, int a3.Pend.a0, int a3.Pend.a1, int a3.Pend.a2]]⟩), (2, ⟨50, 3, true, true, v6, [[int a4.Qty, int a4.Value, int a4.Profit]]⟩), (3, ⟨42, 4, true, true, v7, [[.sc (.slice none 0 0), int 0, int 0, int 0]]⟩)]) ∨ (∃ (a : Unit) (k : Unit), (.inr (.inl a)) = j8 ∧ y = .ifc 193 (.agg [int a2]) ∧ H' = hk [(1, ⟨42, 4, true, true, v5, [[lst 3 GLayer.av a3.Layers, int a3.Pend.a0, int a3.Pend.a1, int a3.Pend.a2]]⟩), (2, ⟨50, 3, true, true, v6, [[int a4.Qty, int a4.Value, int a4.Profit]]⟩), (3, ⟨42, 4, true, true, v7, [[.sc (.slice none 0 0), int 0, int 0, int 0]]⟩)]) ∨ (∃ (a : Unit) (k : Unit), (.inr (.inr (.inl a))) = j8 ∧ y = .ifc 191 (.agg []) ∧ H' = hk [(1, ⟨42, 4, true, true, v5, [[lst 3 GLayer.av a3.Layers, int a3.Pend.a0, int a3.Pend.a1, int a3.Pend.a2]]⟩), (2, ⟨50, 3, true, true, v6, [[int a4.Qty, int a4.Value, int a4.Profit]]⟩), (3, ⟨42, 4, true, true, v7, [[.sc (.slice none 0 0), int 0, int 0, int 0]]⟩)]) ∨ (∃ (a : Unit) (k : Unit), (.inr (.inr (.inr (.inl a)))) = j8 ∧ y = .ifc 190 (.agg []) ∧ H' = hk [(1, ⟨42, 4, true, true, v5, [[lst 3 GLayer.av a3.Layers, int a3.Pend.a0, int a3.Pend.a1, int a3.Pend.a2]]⟩), (2, ⟨50, 3, true, true, v6, [[int a4.Qty, int a4.Value, int a4.Profit]]⟩), (3, ⟨42, 4, true, true, v7, [[.sc (.slice none 0 0), int 0, int 0, int 0]]⟩)]) ∨ (∃ (a : Unit) (k : Unit), (.inr (.inr (.inr (.inr a)))) = j8 ∧ y = .ifc 189 (.agg []) ∧ H' = hk [(1, ⟨42, 4, true, true, v5, [[lst 3 GLayer.av a3.Layers, int a3.Pend.a0, int a3.Pend.a1, int a3.Pend.a2]]⟩), (2, ⟨50, 3, true, true, v6, [[int a4.Qty, int a4.Value, int a4.Profit]]⟩), (3, ⟨42, 4, true, true, v7, [[.sc (.slice none 0 0), int 0, int 0, int 0]]⟩)])) rfl rfl rfl (yl_call rfl rfl (.cons rfl (.cons rfl .nil)) cal95 ?_) ?_
  refine pcw (c := _) Tryz.func95 rfl rfl ?_; intro Q hret hnorm
  refine tc tbk 12 (.mk ?_)
  refine nb tbk h1 fun x9 h1 => ?_
  refine tr tbk 2 (.mk ?_)
  cases x9
  replace h1 := cf h1
  refine tc tbk 3 (.mk ?_)
  refine nb tbk h1 fun x10 h1 => ?_
  refine tr tbk 2 (.mk ?_)
  cases x10
  replace h1 := cf h1
  refine tc tbk 3 (.mk ?_)
  refine nb tbk h1 fun x11 h1 => ?_
  refine tr tbk 2 (.mk ?_)
  cases x11
  replace h1 := cf h1
  refine tc tbk 3 (.mk ?_)
  refine nb tbk h1 fun x12 h1 => ?_
  refine tr tbk 2 (.mk ?_)
  cases x12
  replace h1 := cf h1
  refine tc tbk 7 (.mk ?_)
  obtain rfl := nxt_e h1
  refine w_ret (hret _ _ (hk [(1, ⟨42, 4, true, true, v5, [[lst 3 GLayer.av a3.Layers, int a3.Pend.a0, int a3.Pend.a1, int a3.Pend.a2]]⟩), (2, ⟨50, 3, true, true, v6, [[int a4.Qty, int a4.Value, int a4.Profit]]⟩), (3, ⟨42, 4, true, true, v7, [[.sc (.slice none 0 0), int 0, int 0, int 0]]⟩)]) (.tmp rfl .nil) (HK.le ⟨rfl, rfl, rfl, trivial⟩) ?_)
  exact (.inl ⟨(), (), rfl, rfl, rfl⟩)
  replace h1 := ct h1
  refine tc tbk 5 (.mk ?_)
  refine sY (yv_makeIface rfl Tryz.underlying193 (by intro _ h; cases h) rfl) ?_
  refine tr tbk 2 (.mk ?_)
  obtain rfl := nxt_e h1
  refine w_ret (hret _ _ (hk [(1, ⟨42, 4, true, true, v5, [[lst 3 GLayer.av a3.Layers, int a3.Pend.a0, int a3.Pend.a1, int a3.Pend.a2]]⟩), (2, ⟨50, 3, true, true, v6, [[int a4.Qty, int a4.Value, int a4.Profit]]⟩), (3, ⟨42, 4, true, true, v7, [[.sc (.slice none 0 0), int 0, int 0, int 0]]⟩)]) (.tmp rfl .nil) (HK.le ⟨rfl, rfl, rfl, trivial⟩) ?_)
  exact (.inr (.inl ⟨(), (), rfl, rfl, rfl⟩))
  replace h1 := ct h1
  refine tc tbk 4 (.mk ?_)
  refine sY (yv_makeIface rfl Tryz.underlying191 (by intro _ h; cases h) rfl) ?_
  refine tr tbk 2 (.mk ?_)
  obtain rfl := nxt_e h1
  refine w_ret (hret _ _ (hk [(1, ⟨42, 4, true, true, v5, [[lst 3 GLayer.av a3.Layers, int a3.Pend.a0, int a3.Pend.a1, int a3.Pend.a2]]⟩), (2, ⟨50, 3, true, true, v6, [[int a4.Qty, int a4.Value, int a4.Profit]]⟩), (3, ⟨42, 4, true, true, v7, [[.sc (.slice none 0 0), int 0, int 0, int 0]]⟩)]) (.tmp rfl .nil) (HK.le ⟨rfl, rfl, rfl, trivial⟩) ?_)
  exact (.inr (.inr (.inl ⟨(), (), rfl, rfl, rfl⟩)))
  replace h1 := ct h1
  refine tc tbk 4 (.mk ?_)
  refine sY (yv_makeIface rfl Tryz.underlying190 (by intro _ h; cases h) rfl) ?_
  refine tr tbk 2 (.mk ?_)
  obtain rfl := nxt_e h1
  refine w_ret (hret _ _ (hk [(1, ⟨42, 4, true, true, v5, [[lst 3 GLayer.av a3.Layers, int a3.Pend.a0, int a3.Pend.a1, int a3.Pend.a2]]⟩), (2, ⟨50, 3, true, true, v6, [[int a4.Qty, int a4.Value, int a4.Profit]]⟩), (3, ⟨42, 4, true, true, v7, [[.sc (.slice none 0 0), int 0, int 0, int 0]]⟩)]) (.tmp rfl .nil) (HK.le ⟨rfl, rfl, rfl, trivial⟩) ?_)
  exact (.inr (.inr (.inr (.inl ⟨(), (), rfl, rfl, rfl⟩))))
  replace h1 := ct h1
  refine tc tbk 4 (.mk ?_)
  refine sY (yv_makeIface rfl Tryz.underlying189 (by intro _ h; cases h) rfl) ?_
  refine tr tbk 2 (.mk ?_)
  obtain rfl := nxt_e h1
  refine w_ret (hret _ _ (hk [(1, ⟨42, 4, true, true, v5, [[lst 3 GLayer.av a3.Layers, int a3.Pend.a0, int a3.Pend.a1, int a3.Pend.a2]]⟩), (2, ⟨50, 3, true, true, v6, [[int a4.Qty, int a4.Value, int a4.Profit]]⟩), (3, ⟨42, 4, true, true, v7, [[.sc (.slice none 0 0), int 0, int 0, int 0]]⟩)]) (.tmp rfl .nil) (HK.le ⟨rfl, rfl, rfl, trivial⟩) ?_)
  exact (.inr (.inr (.inr (.inr ⟨(), (), rfl, rfl, rfl⟩))))
  rintro y _ (⟨_, _, rfl, hc, rfl⟩ | ⟨_, _, rfl, hc, rfl⟩ | ⟨_, _, rfl, hc, rfl⟩ | ⟨_, _, rfl, hc, rfl⟩ | ⟨_, _, rfl, hc, rfl⟩)
  replace h0 := selr_l h0
  subst hc
  refine tr tbk 6 (.mk ?_)
  refine sY (yv_ifeqN rfl Tryz.underlying135 rfl rfl) ?_
  refine tr tbk 5 (.mk ?_)
  obtain ⟨x13, e13, h0⟩ := bind_e h0
  refine sC cal96 (d_pool_own_c e13) ?_
  refine sS ⟨42, 4, true, true, v7, [[lst 3 GLayer.av x13.Layers, int x13.Pend.a0, int x13.Pend.a1, int x13.Pend.a2]]⟩ sh42 ?_
  refine tr tbk 3 (.mk ?_)
  obtain rfl := nxt_e h0
  refine wR hret (rC sh42 (rT (rT .nil))) ?_
  exact .refl _
  replace h0 := selr_r h0
  replace h0 := selr_l h0
  subst hc
  refine tr tbk 6 (.mk ?_)
  refine sY (yv_ifeq rfl Tryz.underlying135 rfl rfl) ?_
  refine tr tbk 8 (.mk ?_)
  obtain ⟨j14, h1, h0⟩ := bind_e h0
  refine rse (Out := fun y H' => (∃ (a : GPool × Int × Int) (k : Unit), a = j14 ∧ y = .tup [.agg [lst 3 GLayer.av a.1.Layers, int a.1.Pend.a0, int a.1.Pend.a1, int a.1.Pend.a2], int a.2.1, int a.2.2] ∧ H' = hk [(1, ⟨42, 4, true, true, v5, [[lst 3 GLayer.av a3.Layers, int a3.Pend.a0, int a3.Pend.a1, int a3.Pend.a2]]⟩), (2, ⟨50, 3, true, true, v6, [[int a4.Qty, int a4.Value, int a4.Profit]]⟩), (3, ⟨42, 4, true, true, v7, [[.sc (.slice none 0 0), int 0, int 0, int 0]]⟩)])) rfl rfl rfl (yl_callI rfl rfl mth193_279 (.cons rfl (.cons rfl .nil)) cal279 ?_) ?_
  refine pcw (c := _) Tryz.func279 rfl rfl ?_; intro Q hret hnorm
  refine tc tbk 2 (.mk ?_)
  refine sB 4 fun v15 => ?_
  refine sB 5 fun v16 => ?_
  refine sB 6 fun v17 => ?_
  refine sA 7 z42 fun v18 => ?_
  refine tr tbk 10 (.mk ?_)
  obtain ⟨x19, e19, h1⟩ := bind_e h1
  refine sC cal281 (d_stdcost_In_c e19) ?_
  refine tr tbk 12 (.mk ?_)
  obtain ⟨x20, e20, h1⟩ := bind_e h1
  refine sC cal146 (d_pool_with_c e20) ?_
  refine tr tbk 2 (.mk ?_)
  refine sS ⟨42, 4, true, true, v18, [[lst 3 GLayer.av x20.Layers, int x20.Pend.a0, int x20.Pend.a1, int x20.Pend.a2]]⟩ sh42 ?_
  refine tr tbk 3 (.mk ?_)
  obtain rfl := nxt_e h1
  refine w_ret (hret _ _ (hk [(1, ⟨42, 4, true, true, v5, [[lst 3 GLayer.av a3.Layers, int a3.Pend.a0, int a3.Pend.a1, int a3.Pend.a2]]⟩), (2, ⟨50, 3, true, true, v6, [[int a4.Qty, int a4.Value, int a4.Profit]]⟩), (3, ⟨42, 4, true, true, v7, [[.sc (.slice none 0 0), int 0, int 0, int 0]]⟩)]) (.cell rfl (.pt rfl rfl rfl) sh42 rfl (.tmp rfl (.tmp rfl .nil))) (HK.le ⟨rfl, rfl, rfl, trivial⟩) ?_)
  exact ⟨(x20, x19.2.1, x19.2.2), (), rfl, rfl, rfl⟩
  rintro y _ ⟨⟨y5_1, y5_2, y5_3⟩, _, rfl, hc, rfl⟩
  replace h0 := p2_e h0
  replace h0 := p2_e h0
  subst hc
  refine tr tbk 4 (.mk ?_)
  refine sA 8 z42 fun v21 => ?_
  refine sS ⟨42, 4, true, true, v21, [[lst 3 GLayer.av y5_1.Layers, int y5_1.Pend.a0, int y5_1.Pend.a1, int y5_1.Pend.a2]]⟩ sh42 ?_
  refine tr tbk 7 (.mk ?_)
  refine nb tbk h0 fun x22 h0 => ?_
  refine tr tbk 1 (.mk ?_)
  cases x22
  replace h0 := cf h0
  refine tc tbk 6 (.mk ?_)
  refine sS ⟨42, 4, true, true, v7, [[lst 3 GLayer.av y5_1.Layers, int y5_1.Pend.a0, int y5_1.Pend.a1, int y5_1.Pend.a2]]⟩ sh42 ?_
  refine tr tbk 3 (.mk ?_)
  obtain rfl := nxt_e h0
  refine wR hret (rC sh42 (rT (rT .nil))) ?_
  exact .refl _
  replace h0 := ct h0
  refine tc tbk 4 (.mk ?_)
  obtain ⟨x23, e23, h0⟩ := bind_e h0
  refine sC cal96 (d_pool_own_c e23) ?_
  refine tr tbk 1 (.mk ?_)
  refine sS ⟨42, 4, true, true, v7, [[lst 3 GLayer.av x23.Layers, int x23.Pend.a0, int x23.Pend.a1, int x23.Pend.a2]]⟩ sh42 ?_
  refine tr tbk 3 (.mk ?_)
  obtain rfl := nxt_e h0
  refine wR hret (rC sh42 (rT (rT .nil))) ?_
  exact .refl _
  replace h0 := selr_r h0
  replace h0 := selr_r h0
  replace h0 := selr_l h0
  subst hc
  refine tr tbk 6 (.mk ?_)
  refine sY (yv_ifeq rfl Tryz.underlying135 rfl rfl) ?_
  refine tr tbk 8 (.mk ?_)
  obtain ⟨j24, h1, h0⟩ := bind_e h0
  refine rse (Out := fun y H' => (∃ (a : GPool × Int) (k : Unit), a = j24 ∧ y = .tup [.agg [lst 3 GLayer.av a.1.Layers, int a.1.Pend.a0, int a.1.Pend.a1, int a.1.Pend.a2], int 0, int a.2] ∧ H' = hk [(1, ⟨42, 4, true, true, v5, [[lst 3 GLayer.av a3.Layers, int a3.Pend.a0, int a3.Pend.a1, int a3.Pend.a2]]⟩), (2, ⟨50, 3, true, true, v6, [[int a4.Qty, int a4.Value, int a4.Profit]]⟩), (3, ⟨42, 4, true, true, v7, [[.sc (.slice none 0 0), int 0, int 0, int 0]]⟩)])) rfl rfl rfl (yl_callI rfl rfl mth191_275 (.cons rfl (.cons rfl .nil)) cal275 ?_) ?_
  refine pcw (c := _) Tryz.func275 rfl rfl ?_; intro Q hret hnorm
  refine tc tbk 2 (.mk ?_)
  refine sB 9 fun v25 => ?_
  refine sB 10 fun v26 => ?_
  refine sB 11 fun v27 => ?_
  refine sA 12 z42 fun v28 => ?_
  refine tr tbk 7 (.mk ?_)
  obtain ⟨x29, e29, h1⟩ := bind_e h1
  refine sC cal277 (d_pavg_In_c e29) ?_
  refine tr tbk 3 (.mk ?_)
  refine sS ⟨42, 4, true, true, v26, [[lst 3 GLayer.av x29.1.Layers, int x29.1.Pend.a0, int x29.1.Pend.a1, int x29.1.Pend.a2]]⟩ sh42 ?_
  refine tr tbk 6 (.mk ?_)
  refine sS ⟨42, 4, true, true, v28, [[lst 3 GLayer.av x29.1.Layers, int x29.1.Pend.a0, int x29.1.Pend.a1, int x29.1.Pend.a2]]⟩ sh42 ?_
  refine tr tbk 3 (.mk ?_)
  obtain rfl := nxt_e h1
  refine w_ret (hret _ _ (hk [(1, ⟨42, 4, true, true, v5, [[lst 3 GLayer.av a3.Layers, int a3.Pend.a0, int a3.Pend.a1, int a3.Pend.a2]]⟩), (2, ⟨50, 3, true, true, v6, [[int a4.Qty, int a4.Value, int a4.Profit]]⟩), (3, ⟨42, 4, true, true, v7, [[.sc (.slice none 0 0), int 0, int 0, int 0]]⟩)]) (.cell rfl (.pt rfl rfl rfl) sh42 rfl (.tmp rfl (.tmp rfl .nil))) (HK.le ⟨rfl, rfl, rfl, trivial⟩) ?_)
  exact ⟨(x29.1, x29.2), (), rfl, rfl, rfl⟩
  rintro y _ ⟨⟨y6_1, y6_2⟩, _, rfl, hc, rfl⟩
  replace h0 := p2_e h0
  subst hc
  refine tr tbk 4 (.mk ?_)
  refine sA 8 z42 fun v30 => ?_
  refine sS ⟨42, 4, true, true, v30, [[lst 3 GLayer.av y6_1.Layers, int y6_1.Pend.a0, int y6_1.Pend.a1, int y6_1.Pend.a2]]⟩ sh42 ?_
  refine tr tbk 7 (.mk ?_)
  refine nb tbk h0 fun x31 h0 => ?_
  refine tr tbk 1 (.mk ?_)
  cases x31
  replace h0 := cf h0
  refine tc tbk 6 (.mk ?_)
  refine sS ⟨42, 4, true, true, v7, [[lst 3 GLayer.av y6_1.Layers, int y6_1.Pend.a0, int y6_1.Pend.a1, int y6_1.Pend.a2]]⟩ sh42 ?_
  refine tr tbk 3 (.mk ?_)
  obtain rfl := nxt_e h0
  refine wR hret (rC sh42 (rT (rT .nil))) ?_
  exact .refl _
  replace h0 := ct h0
  refine tc tbk 4 (.mk ?_)
  obtain ⟨x32, e32, h0⟩ := bind_e h0
  refine sC cal96 (d_pool_own_c e32) ?_
  refine tr tbk 1 (.mk ?_)
  refine sS ⟨42, 4, true, true, v7, [[lst 3 GLayer.av x32.Layers, int x32.Pend.a0, int x32.Pend.a1, int x32.Pend.a2]]⟩ sh42 ?_
  refine tr tbk 3 (.mk ?_)
  obtain rfl := nxt_e h0
  refine wR hret (rC sh42 (rT (rT .nil))) ?_
  exact .refl _
  replace h0 := selr_r h0
  replace h0 := selr_r h0
  replace h0 := selr_r h0
  replace h0 := selr_l h0
  subst hc
  refine tr tbk 6 (.mk ?_)
  refine sY (yv_ifeq rfl Tryz.underlying135 rfl rfl) ?_
  refine tr tbk 8 (.mk ?_)
  obtain ⟨j33, h1, h0⟩ := bind_e h0
  refine rse (Out := fun y H' => (∃ (a : GPool × Int) (k : Unit), a = j33 ∧ y = .tup [.agg [lst 3 GLayer.av a.1.Layers, int a.1.Pend.a0, int a.1.Pend.a1, int a.1.Pend.a2], int 0, int a.2] ∧ H' = hk [(1, ⟨42, 4, true, true, v5, [[lst 3 GLayer.av a3.Layers, int a3.Pend.a0, int a3.Pend.a1, int a3.Pend.a2]]⟩), (2, ⟨50, 3, true, true, v6, [[int a4.Qty, int a4.Value, int a4.Profit]]⟩), (3, ⟨42, 4, true, true, v7, [[.sc (.slice none 0 0), int 0, int 0, int 0]]⟩)])) rfl rfl rfl (yl_callI rfl rfl mth190_270 (.cons rfl (.cons rfl .nil)) cal270 ?_) ?_
  refine pcw (c := _) Tryz.func270 rfl rfl ?_; intro Q hret hnorm
  refine tc tbk 2 (.mk ?_)
  refine sB 13 fun v34 => ?_
  refine sB 14 fun v35 => ?_
  refine sB 15 fun v36 => ?_
  refine sA 16 z42 fun v37 => ?_
  refine tr tbk 8 (.mk ?_)
  obtain ⟨x38, e38, h1⟩ := bind_e h1
  refine sC cal272 (d_mavg_In_c e38) ?_
  refine tr tbk 10 (.mk ?_)
  obtain ⟨x39, e39, h1⟩ := bind_e h1
  refine sC cal146 (d_pool_with_c e39) ?_
  refine tr tbk 1 (.mk ?_)
  refine sS ⟨42, 4, true, true, v37, [[lst 3 GLayer.av x39.Layers, int x39.Pend.a0, int x39.Pend.a1, int x39.Pend.a2]]⟩ sh42 ?_
  refine tr tbk 3 (.mk ?_)
  obtain rfl := nxt_e h1
  refine w_ret (hret _ _ (hk [(1, ⟨42, 4, true, true, v5, [[lst 3 GLayer.av a3.Layers, int a3.Pend.a0, int a3.Pend.a1, int a3.Pend.a2]]⟩), (2, ⟨50, 3, true, true, v6, [[int a4.Qty, int a4.Value, int a4.Profit]]⟩), (3, ⟨42, 4, true, true, v7, [[.sc (.slice none 0 0), int 0, int 0, int 0]]⟩)]) (.cell rfl (.pt rfl rfl rfl) sh42 rfl (.tmp rfl (.tmp rfl .nil))) (HK.le ⟨rfl, rfl, rfl, trivial⟩) ?_)
  exact ⟨(x39, x38.2), (), rfl, rfl, rfl⟩
  rintro y _ ⟨⟨y7_1, y7_2⟩, _, rfl, hc, rfl⟩
  replace h0 := p2_e h0
  subst hc
  refine tr tbk 4 (.mk ?_)
  refine sA 8 z42 fun v40 => ?_
  refine sS ⟨42, 4, true, true, v40, [[lst 3 GLayer.av y7_1.Layers, int y7_1.Pend.a0, int y7_1.Pend.a1, int y7_1.Pend.a2]]⟩ sh42 ?_
  refine tr tbk 7 (.mk ?_)
  refine nb tbk h0 fun x41 h0 => ?_
  refine tr tbk 1 (.mk ?_)
  cases x41
  replace h0 := cf h0
  refine tc tbk 6 (.mk ?_)
  refine sS ⟨42, 4, true, true, v7, [[lst 3 GLayer.av y7_1.Layers, int y7_1.Pend.a0, int y7_1.Pend.a1, int y7_1.Pend.a2]]⟩ sh42 ?_
  refine tr tbk 3 (.mk ?_)
  obtain rfl := nxt_e h0
  refine wR hret (rC sh42 (rT (rT .nil))) ?_
  exact .refl _
  replace h0 := ct h0
  refine tc tbk 4 (.mk ?_)
  obtain ⟨x42, e42, h0⟩ := bind_e h0
  refine sC cal96 (d_pool_own_c e42) ?_
  refine tr tbk 1 (.mk ?_)
  refine sS ⟨42, 4, true, true, v7, [[lst 3 GLayer.av x42.Layers, int x42.Pend.a0, int x42.Pend.a1, int x42.Pend.a2]]⟩ sh42 ?_
  refine tr tbk 3 (.mk ?_)
  obtain rfl := nxt_e h0
  refine wR hret (rC sh42 (rT (rT .nil))) ?_
  exact .refl _
  replace h0 := selr_r h0
  replace h0 := selr_r h0
  replace h0 := selr_r h0
  replace h0 := selr_r h0
  subst hc
  refine tr tbk 6 (.mk ?_)
  refine sY (yv_ifeq rfl Tryz.underlying135 rfl rfl) ?_
  refine tr tbk 8 (.mk ?_)
  obtain ⟨j43, h1, h0⟩ := bind_e h0
  refine rse (Out := fun y H' => (∃ (a : GPool × Int) (k : Unit), a = j43 ∧ y = .tup [.agg [lst 3 GLayer.av a.1.Layers, int a.1.Pend.a0, int a.1.Pend.a1, int a.1.Pend.a2], int 0, int a.2] ∧ H' = hk [(1, ⟨42, 4, true, true, v5, [[lst 3 GLayer.av a3.Layers, int a3.Pend.a0, int a3.Pend.a1, int a3.Pend.a2]]⟩), (2, ⟨50, 3, true, true, v6, [[int a4.Qty, int a4.Value, int a4.Profit]]⟩), (3, ⟨42, 4, true, true, v7, [[.sc (.slice none 0 0), int 0, int 0, int 0]]⟩)])) rfl rfl rfl (yl_callI rfl rfl mth189_265 (.cons rfl (.cons rfl .nil)) cal265 ?_) ?_
  refine pcw (c := _) Tryz.func265 rfl rfl ?_; intro Q hret hnorm
  refine tc tbk 2 (.mk ?_)
  refine sB 17 fun v44 => ?_
  refine sB 18 fun v45 => ?_
  refine sB 19 fun v46 => ?_
  refine sA 20 z42 fun v47 => ?_
  refine tr tbk 8 (.mk ?_)
  obtain ⟨x48, e48, h1⟩ := bind_e h1
  refine sC cal267 (d_fifo_In_c e48) ?_
  refine tr tbk 10 (.mk ?_)
  obtain ⟨x49, e49, h1⟩ := bind_e h1
  refine sC cal146 (d_pool_with_c e49) ?_
  refine tr tbk 1 (.mk ?_)
  refine sS ⟨42, 4, true, true, v47, [[lst 3 GLayer.av x49.Layers, int x49.Pend.a0, int x49.Pend.a1, int x49.Pend.a2]]⟩ sh42 ?_
  refine tr tbk 3 (.mk ?_)
  obtain rfl := nxt_e h1
  refine w_ret (hret _ _ (hk [(1, ⟨42, 4, true, true, v5, [[lst 3 GLayer.av a3.Layers, int a3.Pend.a0, int a3.Pend.a1, int a3.Pend.a2]]⟩), (2, ⟨50, 3, true, true, v6, [[int a4.Qty, int a4.Value, int a4.Profit]]⟩), (3, ⟨42, 4, true, true, v7, [[.sc (.slice none 0 0), int 0, int 0, int 0]]⟩)]) (.cell rfl (.pt rfl rfl rfl) sh42 rfl (.tmp rfl (.tmp rfl .nil))) (HK.le ⟨rfl, rfl, rfl, trivial⟩) ?_)
  exact ⟨(x49, x48.2), (), rfl, rfl, rfl⟩
  rintro y _ ⟨⟨y8_1, y8_2⟩, _, rfl, hc, rfl⟩
  replace h0 := p2_e h0
  subst hc
  refine tr tbk 4 (.mk ?_)
  refine sA 8 z42 fun v50 => ?_
  refine sS ⟨42, 4, true, true, v50, [[lst 3 GLayer.av y8_1.Layers, int y8_1.Pend.a0, int y8_1.Pend.a1, int y8_1.Pend.a2]]⟩ sh42 ?_
  refine tr tbk 7 (.mk ?_)
  refine nb tbk h0 fun x51 h0 => ?_
  refine tr tbk 1 (.mk ?_)
  cases x51
  replace h0 := cf h0
  refine tc tbk 6 (.mk ?_)
  refine sS ⟨42, 4, true, true, v7, [[lst 3 GLayer.av y8_1.Layers, int y8_1.Pend.a0, int y8_1.Pend.a1, int y8_1.Pend.a2]]⟩ sh42 ?_
  refine tr tbk 3 (.mk ?_)
  obtain rfl := nxt_e h0
  refine wR hret (rC sh42 (rT (rT .nil))) ?_
  exact .refl _
  replace h0 := ct h0
  refine tc tbk 4 (.mk ?_)
  obtain ⟨x52, e52, h0⟩ := bind_e h0
  refine sC cal96 (d_pool_own_c e52) ?_
  refine tr tbk 1 (.mk ?_)
  refine sS ⟨42, 4, true, true, v7, [[lst 3 GLayer.av x52.Layers, int x52.Pend.a0, int x52.Pend.a1, int x52.Pend.a2]]⟩ sh42 ?_
  refine tr tbk 3 (.mk ?_)
  obtain rfl := nxt_e h0
  refine wR hret (rC sh42 (rT (rT .nil))) ?_
  exact .refl _
def d_stock_At (a1 : GState) (a2 : Int) (a3 : Int) (a4 : Int) : Option (GPool) :=
(d_stock_place a1 a2 a3 a4).bind fun x7 =>
bnd (decide (x7 < 0)) fun x8 =>
cond x8 (some (((⟨[], (⟨0, 0, 0⟩ : A3_Int)⟩ : GPool) : GPool))) ((ix a1.Ents a2).bind fun x9 =>
(ix x9.Pools x7).bind fun x10 =>
asrt (x10.Layers.length ≤ 68719476736) <|
some ((x10 : GPool)))
theorem d_stock_At_c {a1 : GState} {a2 : Int} {a3 : Int} {a4 : Int} {r : GPool} (h0 : d_stock_At a1 a2 a3 a4 = some r) : PP Tryz.prog 28 [.agg (GState.av a1), int a2, int a3, int a4] (fun y => y = .agg (GPool.av r)) := by
  unfold d_stock_At at h0
  refine pp_of_pc (R0 := fun y H => Cv (frzH H) y (.agg (GPool.av r))) ?_ (fun y H hc => ⟨_, rfl, (fun (a : GPool) => PV.agg (GPool.pvc a)) r, hc⟩)
  refine pcw (c := _) Tryz.func28 rfl rfl ?_; intro Q hret hnorm
  refine tc tbk 2 (.mk ?_)
  refine sB 1 fun v5 => ?_
  refine sA 2 z42 fun v6 => ?_
  refine tr tbk 7 (.mk ?_)
  obtain ⟨x7, e7, h0⟩ := bind_e h0
  refine sC cal46 (d_stock_place_c e7) ?_
  refine tr tbk 6 (.mk ?_)
  refine nb tbk h0 fun x8 h0 => ?_
  refine tr tbk 1 (.mk ?_)
  cases x8
  replace h0 := cf h0
  refine tc tbk 7 (.mk ?_)
  obtain ⟨x9, e9, h0⟩ := bind_e h0
  refine sY (yv_to (y := .pp [int x9.Now, boo x9.Closed, lst 4 GPool.av x9.Pools, lst 1 fI x9.Bal, lst 11 GRoll.av x9.Rolls, lst 1 fI x9.Prices, lst 1 fI x9.Down, lst 8 GEnt.av x9.Ahead]) (yv_ixT rfl Tryz.underlying27 sh47 rfl rfl e9) (congrArg AV.pp (GEnt.av_eq x9))) ?_
  refine tr tbk 3 (.mk ?_)
  obtain ⟨x10, e10, h0⟩ := bind_e h0
  refine sY (yv_ixT rfl Tryz.underlying44 sh42 rfl rfl e10) ?_
  refine tr tbk 1 (.mk ?_)
  refine sA 3 z42 fun v11 => ?_
  refine sS ⟨42, 4, true, true, v11, [[lst 3 GLayer.av x10.Layers, int x10.Pend.a0, int x10.Pend.a1, int x10.Pend.a2]]⟩ sh42 ?_
  refine tr tbk 5 (.mk ?_)
  obtain ⟨p12, h0⟩ := asrt_e h0
  refine rse rfl rfl rfl (yl_call rfl rfl (.cons rfl .nil) cal59 (pc_cv (clone59_c (id := 4) (l := x10.Layers) rfl p12) (.cons (.refl _) .nil))) ?_; rintro _ _ ⟨v13, rfl, rfl⟩
  refine tr tbk 1 (.mk ?_)
  refine sS ⟨42, 4, true, true, v11, [[.sl 4 v13 0 x10.Layers.length, int x10.Pend.a0, int x10.Pend.a1, int x10.Pend.a2]]⟩ sh39 ?_
  refine tr tbk 4 (.mk ?_)
  refine sS ⟨42, 4, true, true, v6, [[.sl 4 v13 0 x10.Layers.length, int x10.Pend.a0, int x10.Pend.a1, int x10.Pend.a2]]⟩ sh42 ?_
  refine tr tbk 1 (.mk ?_)
  obtain rfl := nxt_e h0
  refine wR hret (rC sh42 .nil) ?_
  exact (CvL.agg (.cons (cv_lst rfl rfl rfl rfl rfl (Eq.symm rfl)) (.cons (.refl _) (.cons (.refl _) (.cons (.refl _) .nil)))))
  replace h0 := ct h0
  refine tc tbk 4 (.mk ?_)
  refine sS ⟨42, 4, true, true, v6, [[.sc (.slice none 0 0), int 0, int 0, int 0]]⟩ sh42 ?_
  refine tr tbk 1 (.mk ?_)
  obtain rfl := nxt_e h0
  refine wR hret (rC sh42 .nil) ?_
  exact (CvL.agg (.cons (.nil _) (.cons (.refl _) (.cons (.refl _) (.cons (.refl _) .nil)))))
def d_stock_worth_L0 (a1 : GState) (a2 : Int) (a3 : Int) : Nat → Int → (List Int) → (List Int) → (List Int) → Option ((List Int) × (List Int) × (List Int))
  | 0, _, _, _, _ => none
  | n + 1, y0_4, y0_5, y0_6, y0_7 =>
    bnd (decide (y0_4 < 2)) fun x10 =>
    cond x10 ((d_stock_At a1 a2 a3 y0_4).bind fun x11 =>
    (d_fifo_Total n x11.Layers).bind fun x12 =>
    bnd (y0_5 ++ ([x12.1.Qty] : List Int)) fun x14 =>
    asrt (x14.length ≤ 68719476736) <|
    bnd (y0_6 ++ ([x12.1.Value] : List Int)) fun x17 =>
    asrt (x17.length ≤ 68719476736) <|
    bnd (y0_7 ++ ([x12.1.Profit] : List Int)) fun x20 =>
    asrt (x20.length ≤ 68719476736) <|
    bnd (w64 (y0_4 + 1)) fun x23 =>
    d_stock_worth_L0 a1 a2 a3 n (x23 : Int) (x14 : List Int) (x17 : List Int) (x20 : List Int)) (some ((y0_5 : List Int), (y0_6 : List Int), (y0_7 : List Int)))
def d_stock_worth (n : Nat) (a1 : GState) (a2 : Int) (a3 : Int) : Option (GLayer × Bool) :=
(show Option ((List Int) × (List Int) × (List Int)) from
d_stock_worth_L0 a1 a2 a3 n (0 : Int) (([] : List Int) : List Int) (([] : List Int) : List Int) (([] : List Int) : List Int)).bind <| p2 fun (y1_4 : List Int) (q0 : (List Int) × (List Int)) => (p2 fun (y1_5 : List Int) (y1_6 : List Int) =>
(d_money_Sum n y1_4).bind fun x24 =>
(d_money_Sum n y1_5).bind fun x25 =>
(d_money_Sum n y1_6).bind fun x26 =>
bnd (if x26.2 > (if x25.2 > x24.2 then x25.2 else x24.2) then x26.2 else (if x25.2 > x24.2 then x25.2 else x24.2)) fun x27 =>
bnd (decide (x27 = 0)) fun x28 =>
some (((⟨x24.1, x25.1, x26.1⟩ : GLayer) : GLayer), (x28 : Bool))) q0
theorem d_stock_worth_c {n : Nat} {a1 : GState} {a2 : Int} {a3 : Int} {r : GLayer × Bool} (h0 : d_stock_worth n a1 a2 a3 = some r) : PP Tryz.prog 49 [.agg (GState.av a1), int a2, int a3] (fun y => y = .tup [.agg (GLayer.av r.1), boo r.2]) := by
  unfold d_stock_worth at h0
  refine pp_of_pc (R0 := fun y H => Cv (frzH H) y (.tup [.agg (GLayer.av r.1), boo r.2])) ?_ (fun y H hc => ⟨_, rfl, .tup (pvl2 ((fun (a : GLayer) => PV.agg (GLayer.pvc a)) (r.1)) (pvB (r.2))), hc⟩)
  refine pcw (c := _) Tryz.func49 rfl rfl ?_; intro Q hret hnorm
  refine tc tbk 2 (.mk ?_)
  refine sB 1 fun v4 => ?_
  refine sA 2 z50 fun v5 => ?_
  refine tr tbk 13 (.mk ?_)
  refine jn h0 [6, 7] [2] (fun (a : (List Int) × (List Int) × (List Int)) (k : Nat × Nat × Nat) => [(8, .sl 7 k.1 0 a.1.length), (9, .sl 8 k.2.1 0 a.2.1.length), (10, .sl 9 k.2.2 0 a.2.2.length)]) (fun a k => [(7, ⟨3, 1, true, true, k.1, a.1.map fI⟩), (8, ⟨3, 1, true, true, k.2.1, a.2.1.map fI⟩), (9, ⟨3, 1, true, true, k.2.2, a.2.2.map fI⟩)]) ⟨fun j6 h1 => ?_, ?_⟩
  refine tc tbk 1 (.mk ?_)
  refine c_nilobj 8 7 3 1 rfl rfl ?_; intro v7
  refine c_nilobj 9 8 3 1 rfl rfl ?_; intro v8
  refine c_nilobj 10 9 3 1 rfl rfl ?_; intro v9
  refine lp (fun n (a : Int × (List Int) × (List Int) × (List Int)) => d_stock_worth_L0 a1 a2 a3 n a.1 a.2.1 a.2.2.1 a.2.2.2) ((0 : Int), (([] : List Int) : List Int), (([] : List Int) : List Int), (([] : List Int) : List Int)) (v7, v8, v9) h1 [1, 2, 3, 6, 7] [1, 2] (fun (a : Int × (List Int) × (List Int) × (List Int)) (k : Nat × Nat × Nat) => [(8, .sl 7 k.1 0 a.2.1.length), (9, .sl 8 k.2.1 0 a.2.2.1.length), (10, .sl 9 k.2.2 0 a.2.2.2.length), (20, int a.1)]) (fun a k => [(7, ⟨3, 1, true, true, k.1, a.2.1.map fI⟩), (8, ⟨3, 1, true, true, k.2.1, a.2.2.1.map fI⟩), (9, ⟨3, 1, true, true, k.2.2, a.2.2.2.map fI⟩)]) (fun _ => rfl) ⟨leA, ?_⟩
  rintro n ⟨y0_4, y0_5, y0_6, y0_7⟩ ⟨w0_1, w0_2, w0_3⟩ hm h1
  replace h1 : d_stock_worth_L0 a1 a2 a3 (n + 1) y0_4 y0_5 y0_6 y0_7 = some _ := h1
  rw [d_stock_worth_L0] at h1
  refine tc tbk 2 (.mk ?_)
  refine nb tbk h1 fun x10 h1 => ?_
  refine tr tbk 2 (.mk ?_)
  cases x10
  replace h1 := cf h1
  refine tc tbk 2 (.mk ?_)
  exact lf h1 (w0_1, w0_2, w0_3) leA
  replace h1 := ct h1
  refine tc tbk 15 (.mk ?_)
  obtain ⟨x11, e11, h1⟩ := bind_e h1
  refine sC cal28 (d_stock_At_c e11) ?_
  refine tr tbk 1 (.mk ?_)
  obtain ⟨x12, e12, h1⟩ := bind_e h1
  refine sC cal99 (d_fifo_Total_c e12) ?_
  refine tr tbk 3 (.mk ?_)
  refine sA 3 z50 fun v13 => ?_
  refine sS ⟨50, 3, true, true, v13, [[int x12.1.Qty, int x12.1.Value, int x12.1.Profit]]⟩ sh50 ?_
  refine tr tbk 2 (.mk ?_)
  refine c_drawE [0, 0, 2, 6, 15, 0, 0, 64, 192, 511, 0, 0, 2048, 6144, 16383, 32767, 65535, 131071] (rl [(1, [3]), (2, [3]), (6, [3]), (7, [3]), (11, [3]), (12, [3])] []) (rl [(14, [])] [3]) (rl [(4, false), (9, false), (14, false)] true) [0, 1, 2, 3, 5, 6, 7, 8, 10, 11, 12, 13, 4, 9, 14, 15, 16, 17] mixed (by kernel_rfl) ?_; intro K hK
  refine eM ?_
  refine eF fo50_0 ?_
  refine eL sh3 ?_
  refine eP (fun H hH => yv_to (y := lst 1 fI ([x12.1.Qty] : List Int)) (yv_buildSlice (ps := [(0, _)]) (rows := [[int x12.1.Qty]]) rfl Tryz.underlying23 bz3 (.cons rfl .nil) (by kernel_rfl) rfl rfl rfl) rfl) ?_
  refine eM ?_
  refine eF fo50_1 ?_
  refine eL sh3 ?_
  refine eP (fun H hH => yv_to (y := lst 1 fI ([x12.1.Value] : List Int)) (yv_buildSlice (ps := [(0, _)]) (rows := [[int x12.1.Value]]) rfl Tryz.underlying23 bz3 (.cons rfl .nil) (by kernel_rfl) rfl rfl rfl) rfl) ?_
  refine eM ?_
  refine eF fo50_2 ?_
  refine eL sh3 ?_
  refine eP (fun H hH => yv_to (y := lst 1 fI ([x12.1.Profit] : List Int)) (yv_buildSlice (ps := [(0, _)]) (rows := [[int x12.1.Profit]]) rfl Tryz.underlying23 bz3 (.cons rfl .nil) (by kernel_rfl) rfl rfl rfl) rfl) ?_
  obtain ⟨x14, e14, h1⟩ := bnd_e h1
  obtain ⟨p15, h1⟩ := asrt_e h1
  refine de_eff rfl rfl rfl rfl (yl_appT (g := fI) (l := y0_5) (m := ([x12.1.Qty] : List Int)) .any rfl Tryz.underlying23 bz3 by3 rfl rfl rfl rfl rfl rfl rfl rfl rfl rfl (Eq.symm rfl) (.refl _) (fun _ => rfl) e14 p15) (by rintro _ _ ⟨v16, -, rfl, rfl⟩; exact ⟨rfl, trivial⟩) ?_; rintro _ _ ⟨v16, -, rfl, rfl⟩
  obtain ⟨x17, e17, h1⟩ := bnd_e h1
  obtain ⟨p18, h1⟩ := asrt_e h1
  refine de_eff rfl rfl rfl rfl (yl_appT (g := fI) (l := y0_6) (m := ([x12.1.Value] : List Int)) .any rfl Tryz.underlying23 bz3 by3 rfl rfl rfl rfl rfl rfl rfl rfl rfl rfl (Eq.symm rfl) (.refl _) (fun _ => rfl) e17 p18) (by rintro _ _ ⟨v19, -, rfl, rfl⟩; exact ⟨rfl, trivial⟩) ?_; rintro _ _ ⟨v19, -, rfl, rfl⟩
  obtain ⟨x20, e20, h1⟩ := bnd_e h1
  obtain ⟨p21, h1⟩ := asrt_e h1
  refine de_eff rfl rfl rfl rfl (yl_appT (g := fI) (l := y0_7) (m := ([x12.1.Profit] : List Int)) .any rfl Tryz.underlying23 bz3 by3 rfl rfl rfl rfl rfl rfl rfl rfl rfl rfl (Eq.symm rfl) (.refl _) (fun _ => rfl) e20 p21) (by rintro _ _ ⟨v22, -, rfl, rfl⟩; exact trivial) ?_; rintro _ _ ⟨v22, -, rfl, rfl⟩
  iterate 3 refine eA ?_
  refine de_nil (hK _ ?_)
  refine tc tbk 2 (.mk ?_)
  refine ni tbk h1 fun x23 h1 => ?_
  refine tr tbk 2 (.mk ?_)
  exact bk (x23, x14, x17, x20) (v16, v19, v22) h1 leA
  rintro ⟨y1_4, y1_5, y1_6⟩ ⟨w1_1, w1_2, w1_3⟩ h0
  replace h0 := p2_e h0
  replace h0 := p2_e h0
  refine tc tbk 3 (.mk ?_)
  obtain ⟨x24, e24, h0⟩ := bind_e h0
  refine sY (yv_callT (v := .tup [int x24.1, int x24.2]) rfl rfl (.cons rfl .nil) cal100 (.cons (cv_lst rfl rfl rfl rfl rfl (Eq.symm rfl)) .nil) (d_money_Sum_c e24) rfl) ?_
  refine tr tbk 9 (.mk ?_)
  obtain ⟨x25, e25, h0⟩ := bind_e h0
  refine sY (yv_callT (v := .tup [int x25.1, int x25.2]) rfl rfl (.cons rfl .nil) cal100 (.cons (cv_lst rfl rfl rfl rfl rfl (Eq.symm rfl)) .nil) (d_money_Sum_c e25) rfl) ?_
  refine tr tbk 9 (.mk ?_)
  obtain ⟨x26, e26, h0⟩ := bind_e h0
  refine sY (yv_callT (v := .tup [int x26.1, int x26.2]) rfl rfl (.cons rfl .nil) cal100 (.cons (cv_lst rfl rfl rfl rfl rfl (Eq.symm rfl)) .nil) (d_money_Sum_c e26) rfl) ?_
  refine tr tbk 15 (.mk ?_)
  obtain ⟨x27, e27, h0⟩ := bnd_e h0
  refine sY (yv_max3 rfl rfl rfl rfl e27) ?_
  refine nb tbk h0 fun x28 h0 => ?_
  refine sS ⟨50, 3, true, true, v5, [[int x24.1, int x25.1, int x26.1]]⟩ sh50 ?_
  refine tr tbk 2 (.mk ?_)
  obtain rfl := nxt_e h0
  refine wR hret (rC sh50 (rT .nil)) ?_
  exact .refl _
def d_stock_steady_L1 (x9 : GPool) : Nat → Int → (List Int) → Option ((List Int))
  | 0, _, _ => none
  | n + 1, y1_2, y1_3 =>
    bnd (decide (y1_2 < (x9.Layers.length : Int))) fun x11 =>
    cond x11 ((ix x9.Layers y1_2).bind fun x12 =>
    bnd (w64 (0 - x12.Profit)) fun x14 =>
    bnd (if x14 > x12.Profit then x14 else x12.Profit) fun x15 =>
    bnd (y1_3 ++ ([x15] : List Int)) fun x16 =>
    asrt (x16.length ≤ 68719476736) <|
    bnd (w64 (y1_2 + 1)) fun x19 =>
    d_stock_steady_L1 x9 n (x19 : Int) (x16 : List Int)) (some (y1_3 : List Int))
def d_stock_steady_L0 (a1 : GState) (a2 : Int) (a3 : Int) : Nat → Int → (List Int) → Option ((List Int))
  | 0, _, _ => none
  | n + 1, y0_2, y0_3 =>
    bnd (decide (y0_2 < 2)) fun x7 =>
    cond x7 ((show Option ((List Int)) from
    (d_stock_At a1 a2 a3 y0_2).bind fun x9 =>
    (show Option ((List Int)) from
    d_stock_steady_L1 x9 n (0 : Int) (y0_3 : List Int)).bind <| fun y2_2 =>
    some (y2_2 : List Int)).bind <| fun y3_2 =>
    bnd (w64 (y0_2 + 1)) fun x20 =>
    d_stock_steady_L0 a1 a2 a3 n (x20 : Int) (y3_2 : List Int)) (some (y0_3 : List Int))
def d_stock_steady (n : Nat) (a1 : GState) (a2 : Int) (a3 : Int) : Option (Bool) :=
(show Option ((List Int)) from
d_stock_steady_L0 a1 a2 a3 n (0 : Int) (([] : List Int) : List Int)).bind <| fun y4_2 =>
(d_money_Sum n y4_2).bind fun x21 =>
bnd (decide (x21.2 = 0)) fun x22 =>
some ((x22 : Bool))
theorem d_stock_steady_c {n : Nat} {a1 : GState} {a2 : Int} {a3 : Int} {r : Bool} (h0 : d_stock_steady n a1 a2 a3 = some r) : PP Tryz.prog 50 [.agg (GState.av a1), int a2, int a3] (fun y => y = boo r) := by
  unfold d_stock_steady at h0
  refine pp_of_pc (R0 := fun y H => Cv (frzH H) y (boo r)) ?_ (fun y H hc => ⟨_, rfl, pvB r, hc⟩)
  refine pcw (c := _) Tryz.func50 rfl rfl ?_; intro Q hret hnorm
  refine tc tbk 2 (.mk ?_)
  refine sB 1 fun v4 => ?_
  refine tr tbk 11 (.mk ?_)
  refine jn h0 [6] [] (fun (a : (List Int)) (k : Nat) => [(7, .sl 4 k 0 a.length)]) (fun a k => [(4, ⟨3, 1, true, true, k, a.map fI⟩)]) ⟨fun j5 h1 => ?_, ?_⟩
  refine tc tbk 1 (.mk ?_)
  refine c_nilobj 7 4 3 1 rfl rfl ?_; intro v6
  refine lp (fun n (a : Int × (List Int)) => d_stock_steady_L0 a1 a2 a3 n a.1 a.2) ((0 : Int), (([] : List Int) : List Int)) v6 h1 [1, 2, 3, 6] [1] (fun (a : Int × (List Int)) (k : Nat) => [(7, .sl 4 k 0 a.2.length), (13, int a.1)]) (fun a k => [(4, ⟨3, 1, true, true, k, a.2.map fI⟩)]) (fun _ => rfl) ⟨leA, ?_⟩
  rintro n ⟨y0_2, y0_3⟩ w0_1 hm h1
  replace h1 : d_stock_steady_L0 a1 a2 a3 (n + 1) y0_2 y0_3 = some _ := h1
  rw [d_stock_steady_L0] at h1
  refine tc tbk 2 (.mk ?_)
  refine nb tbk h1 fun x7 h1 => ?_
  refine tr tbk 2 (.mk ?_)
  cases x7
  replace h1 := cf h1
  refine tc tbk 2 (.mk ?_)
  exact lf h1 w0_1 leA
  replace h1 := ct h1
  refine tc tbk 3 (.mk ?_)
  refine jn h1 [1, 2, 3, 6, 13] [1] (fun (a : (List Int)) (k : Nat) => [(7, .sl 4 k 0 a.length)]) (fun a k => [(4, ⟨3, 1, true, true, k, a.map fI⟩)]) ⟨fun j8 h2 => ?_, ?_⟩
  refine tc tbk 12 (.mk ?_)
  obtain ⟨x9, e9, h2⟩ := bind_e h2
  refine sC cal28 (d_stock_At_c e9) ?_
  refine tr tbk 1 (.mk ?_)
  refine sY (yv_len_sl rfl Tryz.underlying39 rfl (lst_len _)) ?_
  refine tr tbk 2 (.mk ?_)
  refine jn h2 [1, 2, 3, 6, 13] [1] (fun (a : (List Int)) (k : Nat) => [(7, .sl 4 k 0 a.length)]) (fun a k => [(4, ⟨3, 1, true, true, k, a.map fI⟩)]) ⟨fun j10 h3 => ?_, ?_⟩
  refine tc tbk 1 (.mk ?_)
  refine lp (fun n (a : Int × (List Int)) => d_stock_steady_L1 x9 n a.1 a.2) ((0 : Int), (y0_3 : List Int)) w0_1 h3 [1, 2, 3, 6, 13, 21, 22] [1] (fun (a : Int × (List Int)) (k : Nat) => [(7, .sl 4 k 0 a.2.length), (23, int a.1)]) (fun a k => [(4, ⟨3, 1, true, true, k, a.2.map fI⟩)]) (fun _ => rfl) ⟨leA, ?_⟩
  rintro n ⟨y1_2, y1_3⟩ w1_1 hm h3
  replace h3 : d_stock_steady_L1 x9 (n + 1) y1_2 y1_3 = some _ := h3
  rw [d_stock_steady_L1] at h3
  refine tc tbk 2 (.mk ?_)
  refine nb tbk h3 fun x11 h3 => ?_
  refine tr tbk 2 (.mk ?_)
  cases x11
  replace h3 := cf h3
  refine tc tbk 2 (.mk ?_)
  exact lf h3 w1_1 leA
  replace h3 := ct h3
  refine tc tbk 6 (.mk ?_)
  obtain ⟨x12, e12, h3⟩ := bind_e h3
  refine sY (yv_ixT rfl Tryz.underlying39 sh50 rfl rfl e12) ?_
  refine tr tbk 1 (.mk ?_)
  refine sA 2 z50 fun v13 => ?_
  refine sS ⟨50, 3, true, true, v13, [[int x12.Qty, int x12.Value, int x12.Profit]]⟩ sh50 ?_
  refine tr tbk 7 (.mk ?_)
  refine ni tbk h3 fun x14 h3 => ?_
  obtain ⟨x15, e15, h3⟩ := bnd_e h3
  refine sY (yv_max rfl rfl rfl e15) ?_
  refine sY (yv_to (y := lst 1 fI ([x15] : List Int)) (yv_buildSlice (ps := [(0, _)]) (rows := [[int x15]]) rfl Tryz.underlying23 bz3 (.cons rfl .nil) (by kernel_rfl) rfl rfl rfl) rfl) ?_
  obtain ⟨x16, e16, h3⟩ := bnd_e h3
  obtain ⟨p17, h3⟩ := asrt_e h3
  refine rse rfl rfl rfl (yl_appT (g := fI) (l := y1_3) (m := ([x15] : List Int)) .any rfl Tryz.underlying23 bz3 by3 rfl rfl rfl rfl rfl rfl rfl rfl rfl rfl (Eq.symm rfl) (.refl _) (fun _ => rfl) e16 p17) ?_; rintro _ _ ⟨v18, -, rfl, rfl⟩
  refine tr tbk 4 (.mk ?_)
  refine ni tbk h3 fun x19 h3 => ?_
  refine tr tbk 2 (.mk ?_)
  exact bk (x19, x16) v18 h3 leA
  rintro y2_2 w2_1 h2
  refine tc tbk 1 (.mk ?_)
  exact lf h2 w2_1 leA
  rintro y3_2 w3_1 h1
  refine tc tbk 1 (.mk ?_)
  refine ni tbk h1 fun x20 h1 => ?_
  refine tr tbk 2 (.mk ?_)
  exact bk (x20, y3_2) w3_1 h1 leA
  rintro y4_2 w4_1 h0
  refine tc tbk 3 (.mk ?_)
  obtain ⟨x21, e21, h0⟩ := bind_e h0
  refine sY (yv_callT (v := .tup [int x21.1, int x21.2]) rfl rfl (.cons rfl .nil) cal100 (.cons (cv_lst rfl rfl rfl rfl rfl (Eq.symm rfl)) .nil) (d_money_Sum_c e21) rfl) ?_
  refine tr tbk 9 (.mk ?_)
  refine nb tbk h0 fun x22 h0 => ?_
  refine tr tbk 2 (.mk ?_)
  obtain rfl := nxt_e h0
  refine wR hret (rT .nil) ?_
  exact .refl _
def d_stock_Bring (n : Nat) (a1 : GState) (a2 : Int) (a3 : Int) (a4 : Int) (a5 : GLayer) : Option (GState × Int × Int × Int) :=
(d_stock_place a1 a2 a3 a4).bind fun x9 =>
bnd (decide (x9 < 0)) fun x10 =>
cond x10 (some ((a1 : GState), (0 : Int), (0 : Int), (4 : Int))) ((ix a1.Master.Methods a2).bind fun x11 =>
(ix x11 a3).bind fun x12 =>
(ix a1.Master.Costs a2).bind fun x13 =>
(ix x13 a3).bind fun x14 =>
(ix a1.Ents a2).bind fun x15 =>
(ix x15.Pools x9).bind fun x16 =>
(d_pool_In n x12 x14 x16 a5).bind fun x17 =>
bnd (decide (x17.2.2 ≠ 0)) fun x19 =>
cond x19 (some ((a1 : GState), (0 : Int), (0 : Int), (x17.2.2 : Int))) ((show Option ((Int × Bool × (List Int) × (List GRoll) × (List Int) × (List Int) × (List GEnt) × (List GPool))) from
(show Option ((Unit)) from
asrt (a1.Ents.length ≤ 68719476736) <|
(ix a1.Ents a2).bind fun x26 =>
some ()).bind <| fun _ =>
(ix a1.Ents a2).bind fun x27 =>
asrt (x27.Pools.length ≤ 68719476736) <|
(ix x27.Pools x9).bind fun x30 =>
bnd (x27.Pools.set (Int.toNat x9) (x17.1 : GPool)) fun x31 =>
some ((x27.Now : Int), (x27.Closed : Bool), (x27.Bal : List Int), (x27.Rolls : List GRoll), (x27.Prices : List Int), (x27.Down : List Int), (x27.Ahead : List GEnt), (x31 : List GPool))).bind <| p2 fun (y1_2 : Int) (q0 : Bool × (List Int) × (List GRoll) × (List Int) × (List Int) × (List GEnt) × (List GPool)) => (p2 fun (y1_3 : Bool) (q1 : (List Int) × (List GRoll) × (List Int) × (List Int) × (List GEnt) × (List GPool)) => (p2 fun (y1_5 : List Int) (q2 : (List GRoll) × (List Int) × (List Int) × (List GEnt) × (List GPool)) => (p2 fun (y1_6 : List GRoll) (q3 : (List Int) × (List Int) × (List GEnt) × (List GPool)) => (p2 fun (y1_7 : List Int) (q4 : (List Int) × (List GEnt) × (List GPool)) => (p2 fun (y1_8 : List Int) (q5 : (List GEnt) × (List GPool)) => (p2 fun (y1_9 : List GEnt) (y1_10 : List GPool) =>
(ix a1.Ents a2).bind fun x32 =>
(d_stock_worth n (⟨a1.Master, (a1.Ents.set (Int.toNat a2) (⟨y1_2, y1_3, y1_10, y1_5, y1_6, y1_7, y1_8, y1_9⟩ : GEnt)), a1.Receipts, a1.Sales, a1.Transits, a1.Done⟩ : GState) a2 a3).bind fun x33 =>
(show Option (Bool) from
bnd (!x33.2) fun x36 =>
cond x36 (some (true : Bool)) ((d_stock_steady n (⟨a1.Master, (a1.Ents.set (Int.toNat a2) (⟨y1_2, y1_3, y1_10, y1_5, y1_6, y1_7, y1_8, y1_9⟩ : GEnt)), a1.Receipts, a1.Sales, a1.Transits, a1.Done⟩ : GState) a2 a3).bind fun x37 =>
bnd (!x37) fun x38 =>
some (x38 : Bool))).bind <| fun y2_1 =>
cond y2_1 (some ((a1 : GState), (0 : Int), (0 : Int), (2 : Int))) (bnd (w64 (a5.Value - x17.2.1)) fun x39 =>
some (((⟨a1.Master, (a1.Ents.set (Int.toNat a2) (⟨y1_2, y1_3, y1_10, y1_5, y1_6, y1_7, y1_8, y1_9⟩ : GEnt)), a1.Receipts, a1.Sales, a1.Transits, a1.Done⟩ : GState) : GState), (x39 : Int), (x17.2.1 : Int), (0 : Int)))) q5) q4) q3) q2) q1) q0))
theorem d_stock_Bring_c {n : Nat} {a1 : GState} {a2 : Int} {a3 : Int} {a4 : Int} {a5 : GLayer} {r : GState × Int × Int × Int} (h0 : d_stock_Bring n a1 a2 a3 a4 a5 = some r) : PP Tryz.prog 24 [.agg (GState.av a1), int a2, int a3, int a4, .agg (GLayer.av a5)] (fun y => y = .tup [.agg (GState.av r.1), int r.2.1, int r.2.2.1, int r.2.2.2]) := by
  unfold d_stock_Bring at h0
  refine pp_of_pc (R0 := fun y H => Cv (frzH H) y (.tup [.agg (GState.av r.1), int r.2.1, int r.2.2.1, int r.2.2.2])) ?_ (fun y H hc => ⟨_, rfl, .tup (pvl4 ((fun (a : GState) => PV.agg (GState.pvc a)) (r.1)) (pvI (r.2.1)) (pvI (r.2.2.1)) (pvI (r.2.2.2))), hc⟩)
  refine pcw (c := _) Tryz.func24 rfl rfl ?_; intro Q hret hnorm
  refine tc tbk 2 (.mk ?_)
  refine sB 1 fun v6 => ?_
  refine sB 2 fun v7 => ?_
  refine sA 3 z32 fun v8 => ?_
  refine tr tbk 10 (.mk ?_)
  obtain ⟨x9, e9, h0⟩ := bind_e h0
  refine sC cal46 (d_stock_place_c e9) ?_
  refine tr tbk 6 (.mk ?_)
  refine nb tbk h0 fun x10 h0 => ?_
  refine tr tbk 1 (.mk ?_)
  cases x10
  replace h0 := cf h0
  refine tc tbk 3 (.mk ?_)
  refine c_drawE [0, 1, 3, 0, 15, 31, 0, 127, 255, 0, 512, 1536, 0, 7680, 15872, 0, 65024, 130560, 0, 262144, 0, 1835008, 3932160, 8126464, 0, 33292288, 66846720, 0, 268435455, 536870911, 1073741823, 1073741823, 1073741823, 0, 10737418239, 30064771071, 68719476735] (rl [(0, [1]), (1, [1]), (2, [1]), (9, [1]), (10, [1]), (11, [1]), (18, [1]), (19, [1]), (27, [2])] []) (rl [(34, [])] [1, 2]) (rl [(33, false), (34, false)] true) [0, 1, 2, 3, 4, 5, 6, 7, 8, 9, 10, 11, 12, 13, 14, 15, 16, 17, 18, 19, 20, 21, 22, 23, 24, 25, 26, 27, 28, 29, 30, 31, 32, 33, 34, 35, 36] mixed (by kernel_rfl) ?_; intro K hK
  refine eF fo32_0 ?_
  refine eF fo26_3 ?_
  refine eL sh24 ?_
  refine eM ?_
  obtain ⟨x11, e11, h0⟩ := bind_e h0
  refine eP (fun H hH => yv_ixT rfl Tryz.underlying24 sh23 rfl rfl e11) ?_
  refine eP (fun H hH => yv_load rfl sh23 rfl (.pp _) rfl) ?_
  refine eM ?_
  obtain ⟨x12, e12, h0⟩ := bind_e h0
  refine eP (fun H hH => yv_ixT rfl Tryz.underlying23 sh3 rfl rfl e12) ?_
  refine eP (fun H hH => yv_load rfl sh3 rfl (.pp _) rfl) ?_
  refine eF fo32_0 ?_
  refine eF fo26_4 ?_
  refine eL sh24 ?_
  refine eM ?_
  obtain ⟨x13, e13, h0⟩ := bind_e h0
  refine eP (fun H hH => yv_ixT rfl Tryz.underlying24 sh23 rfl rfl e13) ?_
  refine eP (fun H hH => yv_load rfl sh23 rfl (.pp _) rfl) ?_
  refine eM ?_
  obtain ⟨x14, e14, h0⟩ := bind_e h0
  refine eP (fun H hH => yv_ixT rfl Tryz.underlying23 sh3 rfl rfl e14) ?_
  refine eP (fun H hH => yv_load rfl sh3 rfl (.pp _) rfl) ?_
  refine eF fo32_1 ?_
  refine eL sh27 ?_
  refine eM ?_
  obtain ⟨x15, e15, h0⟩ := bind_e h0
  refine eP (fun H hH => yv_to (y := .pp [int x15.Now, boo x15.Closed, lst 4 GPool.av x15.Pools, lst 1 fI x15.Bal, lst 11 GRoll.av x15.Rolls, lst 1 fI x15.Prices, lst 1 fI x15.Down, lst 8 GEnt.av x15.Ahead]) (yv_ixT rfl Tryz.underlying27 sh47 rfl rfl e15) (congrArg AV.pp (GEnt.av_eq x15))) ?_
  refine eP (fun H hH => yv_fieldAddr rfl fo47_2 rfl (.pp _) (.pp _ _)) ?_
  refine eP (fun H hH => yv_load rfl sh44 rfl (.pp _) rfl) ?_
  refine eM ?_
  obtain ⟨x16, e16, h0⟩ := bind_e h0
  refine eP (fun H hH => yv_ixT rfl Tryz.underlying44 sh42 rfl rfl e16) ?_
  refine eP (fun H hH => yv_load rfl sh42 rfl (.pp _) rfl) ?_
  refine eL sh50 ?_
  obtain ⟨x17, e17, h0⟩ := bind_e h0
  refine eP (fun H hH => yv_callP rfl rfl (.cons rfl (.cons rfl (.cons rfl (.cons rfl .nil)))) cal47 (CvL.refl _) (d_pool_In_c e17)) ?_
  refine eM ?_
  iterate 3 refine eX ?_
  refine de_eff rfl rfl rfl rfl (yl_alloc 4 .any rfl z42 rfl) (by rintro _ _ ⟨v18, -, rfl, rfl⟩; exact ⟨rfl, rfl, trivial⟩) ?_; rintro _ _ ⟨v18, -, rfl, rfl⟩
  refine de_eff0 rfl rfl rfl rfl (Yield.weak (yl_ob (ob' := (⟨42, 4, true, true, v18, [[lst 3 GLayer.av x17.1.Layers, int x17.1.Pend.a0, int x17.1.Pend.a1, int x17.1.Pend.a2]]⟩ : AObj)) (yl_store rfl sh42 rfl rfl rfl rfl rfl rfl rfl rfl rfl) rfl) (fun _ h => h) (fun _ _ => trivial)) (by rintro _ _ ⟨rfl, rfl⟩; exact trivial) ?_; rintro _ _ ⟨rfl, rfl⟩
  iterate 2 refine eA ?_
  refine de_nil (hK _ ?_)
  refine tc tbk 4 (.mk ?_)
  refine nb tbk h0 fun x19 h0 => ?_
  refine tr tbk 1 (.mk ?_)
  cases x19
  replace h0 := cf h0
  refine tc tbk 5 (.mk ?_)
  refine sY (yv_build (cs := (GState.av a1)) (ps := [(0, _)]) rfl pl93 z93 rfl (.cons rfl .nil) (by kernel_rfl)) ?_
  refine sA 5 z93 fun v20 => ?_
  refine sS ⟨93, 10, true, true, v20, [(GState.av a1)]⟩ sh93 ?_
  refine tr tbk 6 (.mk ?_)
  obtain ⟨j21, h1, h0⟩ := bind_e h0
  refine rse (Out := fun y H' => (∃ (a : Int × Bool × (List Int) × (List GRoll) × (List Int) × (List Int) × (List GEnt) × (List GPool)) (k : Nat × Nat), a = j21 ∧ y = .tup [] ∧ H' = hk [(1, ⟨32, 10, true, true, v6, [(GState.av a1)]⟩), (2, ⟨50, 3, true, true, v7, [[int a5.Qty, int a5.Value, int a5.Profit]]⟩), (3, ⟨32, 10, true, true, v8, [[int 0, int 0, .sc (.slice none 0 0), .sc (.slice none 0 0), .sc (.slice none 0 0), .sc (.slice none 0 0), .sc (.slice none 0 0), .sc (.slice none 0 0), .sc (.slice none 0 0), int 0]]⟩), (4, ⟨42, 4, true, true, v18, [[lst 3 GLayer.av x17.1.Layers, int x17.1.Pend.a0, int x17.1.Pend.a1, int x17.1.Pend.a2]]⟩), (5, ⟨93, 10, true, true, v20, [[int a1.Master.Entities, int a1.Master.Periods, lst 1 fI a1.Master.Weights, lst 1 (fL 1 fI) a1.Master.Methods, lst 1 (fL 1 fI) a1.Master.Costs, .sl 7 k.1 0 a1.Ents.length, lst 8 GReceipt.av a1.Receipts, lst 9 GSale.av a1.Sales, lst 6 GTransit.av a1.Transits, int a1.Done]]⟩), (7, ⟨47, 8, true, true, k.1, (a1.Ents.map GEnt.av).set (Int.toNat a2) [int a.1, boo a.2.1, .sl 8 k.2 0 a.2.2.2.2.2.2.2.length, lst 1 fI a.2.2.1, lst 11 GRoll.av a.2.2.2.1, lst 1 fI a.2.2.2.2.1, lst 1 fI a.2.2.2.2.2.1, lst 8 GEnt.av a.2.2.2.2.2.2.1]⟩), (8, ⟨42, 4, true, true, k.2, a.2.2.2.2.2.2.2.map GPool.av⟩)])) rfl rfl rfl (yl_call rfl rfl (.cons rfl (.cons rfl (.cons rfl (.cons rfl .nil)))) cal48 ?_) ?_
  refine pcw (c := _) Tryz.func48 rfl rfl ?_; intro Q hret hnorm
  refine tc tbk 2 (.mk ?_)
  refine sB 6 fun v22 => ?_
  refine tr tbk 5 (.mk ?_)
  obtain ⟨j23, h2, h1⟩ := bind_e h1
  refine rse (Out := fun y H' => (∃ (a : Unit) (k : Nat), a = j23 ∧ y = .pt 7 k (Int.toNat a2) 0 ∧ H' = hk [(1, ⟨32, 10, true, true, v6, [(GState.av a1)]⟩), (2, ⟨50, 3, true, true, v7, [[int a5.Qty, int a5.Value, int a5.Profit]]⟩), (3, ⟨32, 10, true, true, v8, [[int 0, int 0, .sc (.slice none 0 0), .sc (.slice none 0 0), .sc (.slice none 0 0), .sc (.slice none 0 0), .sc (.slice none 0 0), .sc (.slice none 0 0), .sc (.slice none 0 0), int 0]]⟩), (4, ⟨42, 4, true, true, v18, [[lst 3 GLayer.av x17.1.Layers, int x17.1.Pend.a0, int x17.1.Pend.a1, int x17.1.Pend.a2]]⟩), (5, ⟨93, 10, true, true, v20, [[int a1.Master.Entities, int a1.Master.Periods, lst 1 fI a1.Master.Weights, lst 1 (fL 1 fI) a1.Master.Methods, lst 1 (fL 1 fI) a1.Master.Costs, .sl 7 k 0 a1.Ents.length, lst 8 GReceipt.av a1.Receipts, lst 9 GSale.av a1.Sales, lst 6 GTransit.av a1.Transits, int a1.Done]]⟩), (6, ⟨42, 4, true, true, v22, [[lst 3 GLayer.av x17.1.Layers, int x17.1.Pend.a0, int x17.1.Pend.a1, int x17.1.Pend.a2]]⟩), (7, ⟨47, 8, true, true, k, a1.Ents.map GEnt.av⟩)])) rfl rfl rfl (yl_call rfl rfl (.cons rfl (.cons rfl .nil)) cal97 ?_) ?_
  refine pcw (c := _) Tryz.func97 rfl rfl ?_; intro Q hret hnorm
  refine tc tbk 12 (.mk ?_)
  obtain ⟨p24, h2⟩ := asrt_e h2
  refine rse rfl rfl rfl (yl_call rfl rfl (.cons rfl .nil) cal121 (pc_cv (clone121_c (id := 7) (l := a1.Ents) rfl p24) (.cons (.refl _) .nil))) ?_; rintro _ _ ⟨v25, rfl, rfl⟩
  refine tr tbk 3 (.mk ?_)
  refine sS ⟨93, 10, true, true, v20, [[int a1.Master.Entities, int a1.Master.Periods, lst 1 fI a1.Master.Weights, lst 1 (fL 1 fI) a1.Master.Methods, lst 1 (fL 1 fI) a1.Master.Costs, .sl 7 v25 0 a1.Ents.length, lst 8 GReceipt.av a1.Receipts, lst 9 GSale.av a1.Sales, lst 6 GTransit.av a1.Transits, int a1.Done]]⟩ sh27 ?_
  refine tr tbk 9 (.mk ?_)
  obtain ⟨x26, e26, h2⟩ := bind_e h2
  refine sY (yv_ixO rfl Tryz.underlying27 sh47 rfl rfl rfl rfl rfl (Eq.symm rfl) (List.length_map _) e26) ?_
  refine tr tbk 2 (.mk ?_)
  obtain rfl := nxt_e h2
  refine w_ret (hret _ _ (hk [(1, ⟨32, 10, true, true, v6, [(GState.av a1)]⟩), (2, ⟨50, 3, true, true, v7, [[int a5.Qty, int a5.Value, int a5.Profit]]⟩), (3, ⟨32, 10, true, true, v8, [[int 0, int 0, .sc (.slice none 0 0), .sc (.slice none 0 0), .sc (.slice none 0 0), .sc (.slice none 0 0), .sc (.slice none 0 0), .sc (.slice none 0 0), .sc (.slice none 0 0), int 0]]⟩), (4, ⟨42, 4, true, true, v18, [[lst 3 GLayer.av x17.1.Layers, int x17.1.Pend.a0, int x17.1.Pend.a1, int x17.1.Pend.a2]]⟩), (5, ⟨93, 10, true, true, v20, [[int a1.Master.Entities, int a1.Master.Periods, lst 1 fI a1.Master.Weights, lst 1 (fL 1 fI) a1.Master.Methods, lst 1 (fL 1 fI) a1.Master.Costs, .sl 7 v25 0 a1.Ents.length, lst 8 GReceipt.av a1.Receipts, lst 9 GSale.av a1.Sales, lst 6 GTransit.av a1.Transits, int a1.Done]]⟩), (6, ⟨42, 4, true, true, v22, [[lst 3 GLayer.av x17.1.Layers, int x17.1.Pend.a0, int x17.1.Pend.a1, int x17.1.Pend.a2]]⟩), (7, ⟨47, 8, true, true, v25, a1.Ents.map GEnt.av⟩)]) (.tmp rfl .nil) (HK.le ⟨rfl, rfl, rfl, rfl, rfl, rfl, rfl, trivial⟩) ?_)
  exact ⟨(), v25, rfl, rfl, rfl⟩
  rintro y _ ⟨_, w0_1, rfl, hc, rfl⟩
  subst hc
  refine tr tbk 6 (.mk ?_)
  obtain ⟨x27, e27, h1⟩ := bind_e h1
  refine sY (yv_nilCheck rfl rfl (.pt rfl rfl (ix_get' e27 (GEnt.av_eq _)))) ?_
  refine sY (yv_fieldAddr rfl fo47_2 rfl (.pt rfl rfl (ix_get' e27 (GEnt.av_eq _))) (.pt _ _ _ _ _)) ?_
  refine sY (yv_load rfl sh44 rfl (.pt rfl rfl (ix_get' e27 (GEnt.av_eq _))) rfl) ?_
  obtain ⟨p28, h1⟩ := asrt_e h1
  refine rse rfl rfl rfl (yl_call rfl rfl (.cons rfl .nil) cal98 (pc_cv (clone98_c (id := 8) (l := x27.Pools) rfl p28) (.cons (.refl _) .nil))) ?_; rintro _ _ ⟨v29, rfl, rfl⟩
  refine sY (yv_nilCheck rfl rfl (.pt rfl rfl (ix_get' e27 (GEnt.av_eq _)))) ?_
  refine sY (yv_fieldAddr rfl fo47_2 rfl (.pt rfl rfl (ix_get' e27 (GEnt.av_eq _))) (.pt _ _ _ _ _)) ?_
  refine rsstore rfl rfl (yl_ob (ob' := (⟨47, 8, true, true, w0_1, (a1.Ents.map GEnt.av).set (Int.toNat a2) [int x27.Now, boo x27.Closed, .sl 8 v29 0 x27.Pools.length, lst 1 fI x27.Bal, lst 11 GRoll.av x27.Rolls, lst 1 fI x27.Prices, lst 1 fI x27.Down, lst 8 GEnt.av x27.Ahead]⟩ : AObj)) (yl_store rfl sh44 rfl rfl rfl rfl rfl (ix_get' e27 (GEnt.av_eq _)) rfl rfl rfl) (ob_eq rfl)) ?_
  refine tr tbk 1 (.mk ?_)
  refine c_drawE [0, 1, 3, 7, 0, 0, 63, 127] (rl [(1, [7]), (2, [7]), (3, [7]), (5, [6]), (6, [8])] []) (rl [(7, [])] [6, 7, 8]) (rl [(7, false)] true) [0, 1, 2, 3, 4, 5, 6, 7] mixed (by kernel_rfl) ?_; intro K hK
  refine eM ?_
  refine eN (hr := set_get e27) ?_
  refine eF fo47_2 (hr := set_get e27) ?_
  refine eL sh44 (hr := set_get e27) ?_
  refine eM ?_
  refine eL sh42 ?_
  obtain ⟨x30, e30, h1⟩ := bind_e h1
  refine de_pure rfl rfl rfl rfl (fun H hH => yv_ixO rfl Tryz.underlying44 sh42 rfl rfl ((hH _ (by decide)).trans rfl) rfl rfl (Eq.symm rfl) (List.length_map _) e30) ?_
  obtain ⟨x31, e31, h1⟩ := bnd_e h1
  have fx31 := ix_set e30 e31; have lx31 := len_setV e31 (rfl : x27.Pools.length = x27.Pools.length)
  refine de_eff0 rfl rfl rfl rfl (Yield.weak (yl_ob (ob' := (⟨42, 4, true, true, v29, x31.map GPool.av⟩ : AObj)) (yl_store rfl sh42 rfl rfl rfl rfl rfl (ix_get e30) rfl rfl rfl) (ob_eq (map_setV e31))) (fun _ h => h) (fun _ _ => trivial)) (by rintro _ _ ⟨rfl, rfl⟩; exact trivial) ?_; rintro _ _ ⟨rfl, rfl⟩
  refine de_nil (hK _ ?_)
  obtain rfl := nxt_e h1
  refine c_nil (hnorm _ _ (hk [(1, ⟨32, 10, true, true, v6, [(GState.av a1)]⟩), (2, ⟨50, 3, true, true, v7, [[int a5.Qty, int a5.Value, int a5.Profit]]⟩), (3, ⟨32, 10, true, true, v8, [[int 0, int 0, .sc (.slice none 0 0), .sc (.slice none 0 0), .sc (.slice none 0 0), .sc (.slice none 0 0), .sc (.slice none 0 0), .sc (.slice none 0 0), .sc (.slice none 0 0), int 0]]⟩), (4, ⟨42, 4, true, true, v18, [[lst 3 GLayer.av x17.1.Layers, int x17.1.Pend.a0, int x17.1.Pend.a1, int x17.1.Pend.a2]]⟩), (5, ⟨93, 10, true, true, v20, [[int a1.Master.Entities, int a1.Master.Periods, lst 1 fI a1.Master.Weights, lst 1 (fL 1 fI) a1.Master.Methods, lst 1 (fL 1 fI) a1.Master.Costs, .sl 7 w0_1 0 a1.Ents.length, lst 8 GReceipt.av a1.Receipts, lst 9 GSale.av a1.Sales, lst 6 GTransit.av a1.Transits, int a1.Done]]⟩), (7, ⟨47, 8, true, true, w0_1, (a1.Ents.map GEnt.av).set (Int.toNat a2) [int x27.Now, boo x27.Closed, .sl 8 v29 0 x31.length, lst 1 fI x27.Bal, lst 11 GRoll.av x27.Rolls, lst 1 fI x27.Prices, lst 1 fI x27.Down, lst 8 GEnt.av x27.Ahead]⟩), (8, ⟨42, 4, true, true, v29, x31.map GPool.av⟩)]) .nil (HK.le ⟨rfl, rfl, rfl, rfl, rfl, (by first | rfl | exact lx31 ▸ rfl), rfl, trivial⟩) ?_)
  exact ⟨(x27.Now, x27.Closed, x27.Bal, x27.Rolls, x27.Prices, x27.Down, x27.Ahead, x31), (w0_1, v29), rfl, rfl, rfl⟩
  rintro y _ ⟨⟨y1_2, y1_3, y1_5, y1_6, y1_7, y1_8, y1_9, y1_10⟩, ⟨w1_1, w1_4⟩, rfl, hc, rfl⟩
  replace h0 := p2_e h0
  replace h0 := p2_e h0
  replace h0 := p2_e h0
  replace h0 := p2_e h0
  replace h0 := p2_e h0
  replace h0 := p2_e h0
  replace h0 := p2_e h0
  subst hc
  obtain ⟨x32, e32, h0⟩ := bind_e h0
  refine tr tbk 8 (.mk ?_)
  obtain ⟨x33, e33, h0⟩ := bind_e h0
  refine sY (yv_callT (v := .tup [.agg [int x33.1.Qty, int x33.1.Value, int x33.1.Profit], boo x33.2]) rfl rfl (.cons rfl (.cons rfl (.cons rfl .nil))) cal49 (.cons (CvL.agg (.cons (.refl _) (.cons (.refl _) (.cons (.refl _) (.cons (.refl _) (.cons (.refl _) (.cons (cv_ov rfl rfl rfl rfl rfl (Eq.symm rfl) e32 (cvl_to (.cons (.refl _) (.cons (.refl _) (.cons (cv_lst rfl rfl rfl rfl rfl (Eq.symm rfl)) (.cons (.refl _) (.cons (.refl _) (.cons (.refl _) (.cons (.refl _) (.cons (.refl _) .nil)))))))) (GEnt.av_eq _))) (.cons (.refl _) (.cons (.refl _) (.cons (.refl _) (.cons (.refl _) .nil))))))))))) (.cons (.refl _) (.cons (.refl _) .nil))) (d_stock_worth_c e33) rfl) ?_
  refine tr tbk 3 (.mk ?_)
  refine sA 9 z50 fun v34 => ?_
  refine sS ⟨50, 3, true, true, v34, [[int x33.1.Qty, int x33.1.Value, int x33.1.Profit]]⟩ sh50 ?_
  refine tr tbk 3 (.mk ?_)
  refine jn h0 [5, 9, 10, 11, 12, 13, 17] [1, 2, 3, 5, 7, 8] (fun (a : Bool) (k : Unit) => [(88, boo a)]) (fun a k => []) ⟨fun j35 h1 => ?_, ?_⟩
  refine tc tbk 2 (.mk ?_)
  refine nb tbk h1 fun x36 h1 => ?_
  refine tr tbk 1 (.mk ?_)
  cases x36
  replace h1 := cf h1
  refine tr tbk 4 (.mk ?_)
  obtain ⟨x37, e37, h1⟩ := bind_e h1
  refine sY (yv_callT (v := boo x37) rfl rfl (.cons rfl (.cons rfl (.cons rfl .nil))) cal50 (.cons (CvL.agg (.cons (.refl _) (.cons (.refl _) (.cons (.refl _) (.cons (.refl _) (.cons (.refl _) (.cons (cv_ov rfl rfl rfl rfl rfl (Eq.symm rfl) e32 (cvl_to (.cons (.refl _) (.cons (.refl _) (.cons (cv_lst rfl rfl rfl rfl rfl (Eq.symm rfl)) (.cons (.refl _) (.cons (.refl _) (.cons (.refl _) (.cons (.refl _) (.cons (.refl _) .nil)))))))) (GEnt.av_eq _))) (.cons (.refl _) (.cons (.refl _) (.cons (.refl _) (.cons (.refl _) .nil))))))))))) (.cons (.refl _) (.cons (.refl _) .nil))) (d_stock_steady_c e37) rfl) ?_
  refine nb tbk h1 fun x38 h1 => ?_
  refine tr tbk 2 (.mk ?_)
  exact lf h1 () leA
  replace h1 := ct h1
  refine tr tbk 8 (.mk ?_)
  exact lf h1 () leA
  rintro y2_1 _ h0
  cases y2_1
  replace h0 := cf h0
  refine tc tbk 3 (.mk ?_)
  refine c_drawE [0, 1, 0, 4, 0, 28, 0, 3, 191, 511, 1023] (rl [(0, [5]), (1, [5]), (2, [2]), (3, [2])] []) (rl [(7, [2])] [2, 5]) (rl [(7, false)] true) [0, 1, 2, 3, 4, 5, 6, 7, 8, 9, 10] mixed (by kernel_rfl) ?_; intro K hK
  refine eF fo93_0 ?_
  refine eL sh32 ?_
  refine eF fo50_1 ?_
  refine eL sh3 ?_
  refine eM ?_
  obtain ⟨x39, e39, h0⟩ := bnd_e h0
  refine eP (fun H hH => yv_sub rfl rfl rfl e39) ?_
  refine eM ?_
  refine de_eff0 rfl rfl rfl rfl (Yield.weak (yl_ob (ob' := (⟨32, 10, true, true, v8, [[int a1.Master.Entities, int a1.Master.Periods, lst 1 fI a1.Master.Weights, lst 1 (fL 1 fI) a1.Master.Methods, lst 1 (fL 1 fI) a1.Master.Costs, .sl 7 w1_1 0 a1.Ents.length, lst 8 GReceipt.av a1.Receipts, lst 9 GSale.av a1.Sales, lst 6 GTransit.av a1.Transits, int a1.Done]]⟩ : AObj)) (yl_store rfl sh32 rfl rfl rfl rfl rfl rfl rfl rfl rfl) rfl) (fun _ h => h) (fun _ _ => trivial)) (by rintro _ _ ⟨rfl, rfl⟩; exact ⟨rfl, trivial⟩) ?_; rintro _ _ ⟨rfl, rfl⟩
  iterate 3 refine eA ?_
  refine de_nil (hK _ ?_)
  obtain rfl := nxt_e h0
  refine wR hret (rC sh32 (rT (rT (rT .nil)))) ?_
  exact CvL.tup (.cons (CvL.agg (.cons (.refl _) (.cons (.refl _) (.cons (.refl _) (.cons (.refl _) (.cons (.refl _) (.cons (cv_ov rfl rfl rfl rfl rfl (Eq.symm rfl) e32 (cvl_to (.cons (.refl _) (.cons (.refl _) (.cons (cv_lst rfl rfl rfl rfl rfl (Eq.symm rfl)) (.cons (.refl _) (.cons (.refl _) (.cons (.refl _) (.cons (.refl _) (.cons (.refl _) .nil)))))))) (GEnt.av_eq _))) (.cons (.refl _) (.cons (.refl _) (.cons (.refl _) (.cons (.refl _) .nil))))))))))) (.cons (.refl _) (.cons (.refl _) (.cons (.refl _) .nil))))
  replace h0 := ct h0
  refine tc tbk 4 (.mk ?_)
  refine sS ⟨32, 10, true, true, v8, [(GState.av a1)]⟩ sh32 ?_
  refine tr tbk 4 (.mk ?_)
  obtain rfl := nxt_e h0
  refine wR hret (rC sh32 (rT (rT (rT .nil)))) ?_
  exact .refl _
  replace h0 := ct h0
  refine tc tbk 5 (.mk ?_)
  refine sS ⟨32, 10, true, true, v8, [(GState.av a1)]⟩ sh32 ?_
  refine tr tbk 4 (.mk ?_)
  obtain rfl := nxt_e h0
  refine wR hret (rC sh32 (rT (rT (rT .nil)))) ?_
  exact .refl _
  replace h0 := ct h0
  refine tc tbk 4 (.mk ?_)
  refine sS ⟨32, 10, true, true, v8, [(GState.av a1)]⟩ sh32 ?_
  refine tr tbk 4 (.mk ?_)
  obtain rfl := nxt_e h0
  refine wR hret (rC sh32 (rT (rT (rT .nil)))) ?_
  exact .refl _
def d_adjust_line (a1 : Int) (a2 : Int) : Option (GLine) :=
some (((⟨a1, a2⟩ : GLine) : GLine))
theorem d_adjust_line_c {a1 : Int} {a2 : Int} {r : GLine} (h0 : d_adjust_line a1 a2 = some r) : PP Tryz.prog 115 [int a1, int a2] (fun y => y = .agg (GLine.av r)) := by
  unfold d_adjust_line at h0
  refine pp_of_pc (R0 := fun y H => Cv (frzH H) y (.agg (GLine.av r))) ?_ (fun y H hc => ⟨_, rfl, (fun (a : GLine) => PV.agg (GLine.pvc a)) r, hc⟩)
  refine pcw (c := _) Tryz.func115 rfl rfl ?_; intro Q hret hnorm
  refine tc tbk 2 (.mk ?_)
  refine sA 1 z81 fun v3 => ?_
  refine tr tbk 6 (.mk ?_)
  refine sS ⟨81, 2, true, true, v3, [[int a1, int a2]]⟩ sh81 ?_
  refine tr tbk 1 (.mk ?_)
  obtain rfl := nxt_e h0
  refine wR hret (rC sh81 .nil) ?_
  exact .refl _
def d_voucher_is (a1 : Int) : Option (Bool) :=
(show Option (Bool) from
bnd (decide (a1 ≥ 0)) fun x3 =>
cond x3 (bnd (decide (a1 < 17)) fun x4 =>
some (x4 : Bool)) (some (false : Bool))).bind <| fun y0_1 =>
some ((y0_1 : Bool))
theorem d_voucher_is_c {a1 : Int} {r : Bool} (h0 : d_voucher_is a1 = some r) : PP Tryz.prog 153 [int a1] (fun y => y = boo r) := by
  unfold d_voucher_is at h0
  refine pp_of_pc (R0 := fun y H => Cv (frzH H) y (boo r)) ?_ (fun y H hc => ⟨_, rfl, pvB r, hc⟩)
  refine pcw (c := _) Tryz.func153 rfl rfl ?_; intro Q hret hnorm
  refine tc tbk 5 (.mk ?_)
  refine jn h0 [] [] (fun (a : Bool) (k : Unit) => [(2, boo a)]) (fun a k => []) ⟨fun j2 h1 => ?_, ?_⟩
  refine tc tbk 2 (.mk ?_)
  refine nb tbk h1 fun x3 h1 => ?_
  refine tr tbk 1 (.mk ?_)
  cases x3
  replace h1 := cf h1
  refine tr tbk 5 (.mk ?_)
  exact lf h1 () leA
  replace h1 := ct h1
  refine tr tbk 1 (.mk ?_)
  refine nb tbk h1 fun x4 h1 => ?_
  refine tr tbk 3 (.mk ?_)
  exact lf h1 () leA
  rintro y0_1 _ h0
  obtain rfl := nxt_e h0
  refine wR hret (rT .nil) ?_
  exact .refl _
def d_voucher_in (a1 : Int) : Option (Bool) :=
(show Option (Bool) from
bnd (decide (a1 ≥ (-288230376151711744))) fun x3 =>
cond x3 (bnd (decide (a1 ≤ 288230376151711744)) fun x4 =>
some (x4 : Bool)) (some (false : Bool))).bind <| fun y0_1 =>
some ((y0_1 : Bool))
theorem d_voucher_in_c {a1 : Int} {r : Bool} (h0 : d_voucher_in a1 = some r) : PP Tryz.prog 154 [int a1] (fun y => y = boo r) := by
  unfold d_voucher_in at h0
  refine pp_of_pc (R0 := fun y H => Cv (frzH H) y (boo r)) ?_ (fun y H hc => ⟨_, rfl, pvB r, hc⟩)
  refine pcw (c := _) Tryz.func154 rfl rfl ?_; intro Q hret hnorm
  refine tc tbk 5 (.mk ?_)
  refine jn h0 [] [] (fun (a : Bool) (k : Unit) => [(2, boo a)]) (fun a k => []) ⟨fun j2 h1 => ?_, ?_⟩
  refine tc tbk 2 (.mk ?_)
  refine nb tbk h1 fun x3 h1 => ?_
  refine tr tbk 1 (.mk ?_)
  cases x3
  replace h1 := cf h1
  refine tr tbk 5 (.mk ?_)
  exact lf h1 () leA
  replace h1 := ct h1
  refine tr tbk 1 (.mk ?_)
  refine nb tbk h1 fun x4 h1 => ?_
  refine tr tbk 3 (.mk ?_)
  exact lf h1 () leA
  rintro y0_1 _ h0
  obtain rfl := nxt_e h0
  refine wR hret (rT .nil) ?_
  exact .refl _
def d_voucher_Plain_1 (a1 : GLine) : Option (Bool) :=
(show Option (Bool) from
(d_voucher_is a1.Account).bind fun x4 =>
bnd (!x4) fun x5 =>
cond x5 (some (true : Bool)) ((d_voucher_in a1.Amount).bind fun x6 =>
bnd (!x6) fun x7 =>
some (x7 : Bool))).bind <| fun y0_1 =>
some ((y0_1 : Bool))
theorem d_voucher_Plain_1_c {a1 : GLine} {r : Bool} (h0 : d_voucher_Plain_1 a1 = some r) : PP Tryz.prog 152 [.agg (GLine.av a1)] (fun y => y = boo r) := by
  unfold d_voucher_Plain_1 at h0
  refine pp_of_pc (R0 := fun y H => Cv (frzH H) y (boo r)) ?_ (fun y H hc => ⟨_, rfl, pvB r, hc⟩)
  refine pcw (c := _) Tryz.func152 rfl rfl ?_; intro Q hret hnorm
  refine tc tbk 2 (.mk ?_)
  refine sB 1 fun v2 => ?_
  refine tr tbk 3 (.mk ?_)
  refine jn h0 [] [] (fun (a : Bool) (k : Unit) => [(2, boo a)]) (fun a k => []) ⟨fun j3 h1 => ?_, ?_⟩
  refine tc tbk 3 (.mk ?_)
  obtain ⟨x4, e4, h1⟩ := bind_e h1
  refine sC cal153 (d_voucher_is_c e4) ?_
  refine nb tbk h1 fun x5 h1 => ?_
  refine tr tbk 1 (.mk ?_)
  cases x5
  replace h1 := cf h1
  refine tr tbk 2 (.mk ?_)
  obtain ⟨x6, e6, h1⟩ := bind_e h1
  refine sC cal154 (d_voucher_in_c e6) ?_
  refine nb tbk h1 fun x7 h1 => ?_
  refine tr tbk 3 (.mk ?_)
  exact lf h1 () leA
  replace h1 := ct h1
  refine tr tbk 7 (.mk ?_)
  exact lf h1 () leA
  rintro y0_1 _ h0
  obtain rfl := nxt_e h0
  refine wR hret (rT .nil) ?_
  exact .refl _
def d_voucher_Plain_2 (a1 : GLine) : Option (Int) :=
some ((a1.Account : Int))
theorem d_voucher_Plain_2_c {a1 : GLine} {r : Int} (h0 : d_voucher_Plain_2 a1 = some r) : PP Tryz.prog 157 [.agg (GLine.av a1)] (fun y => y = int r) := by
  unfold d_voucher_Plain_2 at h0
  refine pp_of_pc (R0 := fun y H => Cv (frzH H) y (int r)) ?_ (fun y H hc => ⟨_, rfl, pvI r, hc⟩)
  refine pcw (c := _) Tryz.func157 rfl rfl ?_; intro Q hret hnorm
  refine tc tbk 2 (.mk ?_)
  refine sB 1 fun v2 => ?_
  refine tr tbk 8 (.mk ?_)
  obtain rfl := nxt_e h0
  refine wR hret (rT .nil) ?_
  exact .refl _
def d_cmp_isNaN_int (a1 : Int) : Option (Bool) :=
bnd (decide (a1 ≠ a1)) fun x2 =>
some ((x2 : Bool))
theorem d_cmp_isNaN_int_c {a1 : Int} {r : Bool} (h0 : d_cmp_isNaN_int a1 = some r) : PP Tryz.prog 223 [int a1] (fun y => y = boo r) := by
  unfold d_cmp_isNaN_int at h0
  refine pp_of_pc (R0 := fun y H => Cv (frzH H) y (boo r)) ?_ (fun y H hc => ⟨_, rfl, pvB r, hc⟩)
  refine pcw (c := _) Tryz.func223 rfl rfl ?_; intro Q hret hnorm
  refine tc tbk 8 (.mk ?_)
  refine nb tbk h0 fun x2 h0 => ?_
  refine tr tbk 2 (.mk ?_)
  obtain rfl := nxt_e h0
  refine wR hret (rT .nil) ?_
  exact .refl _
def d_cmp_Compare_int (a1 : Int) (a2 : Int) : Option (Int) :=
(d_cmp_isNaN_int a1).bind fun x3 =>
(d_cmp_isNaN_int a2).bind fun x4 =>
cond x3 (cond x4 (some ((0 : Int))) (some (((-1) : Int)))) (cond x4 (some ((1 : Int))) (bnd (decide (a1 < a2)) fun x5 =>
cond x5 (some (((-1) : Int))) (bnd (decide (a1 > a2)) fun x6 =>
cond x6 (some ((1 : Int))) (some ((0 : Int))))))
theorem d_cmp_Compare_int_c {a1 : Int} {a2 : Int} {r : Int} (h0 : d_cmp_Compare_int a1 a2 = some r) : PP Tryz.prog 194 [int a1, int a2] (fun y => y = int r) := by
  unfold d_cmp_Compare_int at h0
  refine pp_of_pc (R0 := fun y H => Cv (frzH H) y (int r)) ?_ (fun y H hc => ⟨_, rfl, pvI r, hc⟩)
  refine pcw (c := _) Tryz.func194 rfl rfl ?_; intro Q hret hnorm
  refine tc tbk 7 (.mk ?_)
  obtain ⟨x3, e3, h0⟩ := bind_e h0
  refine sC cal223 (d_cmp_isNaN_int_c e3) ?_
  refine tr tbk 5 (.mk ?_)
  obtain ⟨x4, e4, h0⟩ := bind_e h0
  refine sC cal223 (d_cmp_isNaN_int_c e4) ?_
  refine tr tbk 7 (.mk ?_)
  cases x3
  replace h0 := cf h0
  refine tc tbk 7 (.mk ?_)
  cases x4
  replace h0 := cf h0
  refine tc tbk 7 (.mk ?_)
  refine nb tbk h0 fun x5 h0 => ?_
  refine tr tbk 1 (.mk ?_)
  cases x5
  replace h0 := cf h0
  refine tc tbk 7 (.mk ?_)
  refine nb tbk h0 fun x6 h0 => ?_
  refine tr tbk 1 (.mk ?_)
  cases x6
  replace h0 := cf h0
  refine tc tbk 6 (.mk ?_)
  obtain rfl := nxt_e h0
  refine wR hret (rT .nil) ?_
  exact .refl _
  replace h0 := ct h0
  refine tc tbk 5 (.mk ?_)
  obtain rfl := nxt_e h0
  refine wR hret (rT .nil) ?_
  exact .refl _
  replace h0 := ct h0
  refine tc tbk 5 (.mk ?_)
  obtain rfl := nxt_e h0
  refine wR hret (rT .nil) ?_
  exact .refl _
  replace h0 := ct h0
  refine tc tbk 5 (.mk ?_)
  obtain rfl := nxt_e h0
  refine wR hret (rT .nil) ?_
  exact .refl _
  replace h0 := ct h0
  refine tc tbk 6 (.mk ?_)
  cases x4
  replace h0 := cf h0
  refine tc tbk 6 (.mk ?_)
  obtain rfl := nxt_e h0
  refine wR hret (rT .nil) ?_
  exact .refl _
  replace h0 := ct h0
  refine tc tbk 5 (.mk ?_)
  obtain rfl := nxt_e h0
  refine wR hret (rT .nil) ?_
  exact .refl _
def d_voucher_Plain_3 (a1 : GLine) : Option (Bool) :=
bnd (decide (a1.Amount = 0)) fun x3 =>
some ((x3 : Bool))
theorem d_voucher_Plain_3_c {a1 : GLine} {r : Bool} (h0 : d_voucher_Plain_3 a1 = some r) : PP Tryz.prog 159 [.agg (GLine.av a1)] (fun y => y = boo r) := by
  unfold d_voucher_Plain_3 at h0
  refine pp_of_pc (R0 := fun y H => Cv (frzH H) y (boo r)) ?_ (fun y H hc => ⟨_, rfl, pvB r, hc⟩)
  refine pcw (c := _) Tryz.func159 rfl rfl ?_; intro Q hret hnorm
  refine tc tbk 2 (.mk ?_)
  refine sB 1 fun v2 => ?_
  refine tr tbk 6 (.mk ?_)
  refine nb tbk h0 fun x3 h0 => ?_
  refine tr tbk 2 (.mk ?_)
  obtain rfl := nxt_e h0
  refine wR hret (rT .nil) ?_
  exact .refl _
def d_voucher_Plain_L0 (a1 : List GLine) : Nat → Int → Option ((Unit) ⊕ ((Int)))
  | 0, _ => none
  | n + 1, y0_1 =>
    bnd (decide (y0_1 < (a1.length : Int))) fun x5 =>
    cond x5 ((ix a1 y0_1).bind fun x6 =>
    (d_voucher_Plain_1 x6).bind fun x7 =>
    cond x7 (esc (some (y0_1 : Int))) (bnd (w64 (y0_1 + 1)) fun x8 =>
    d_voucher_Plain_L0 a1 n (x8 : Int))) (brk ())
def d_voucher_Plain_L1 (a1 : List GLine) : Nat → Option (Unit)
  | 0 => none
  | n + 1 =>
    bnd (decide (20 ≤ (a1.length : Int))) fun x18 =>
    asrt (x18 = false) <|
    some ()
def d_voucher_Plain_L3 : Nat → Int → (List GLine) → Option ((List GLine))
  | 0, _, _ => none
  | n + 1, y7_1, y7_2 =>
    (show Option (Bool) from
    bnd (decide (y7_1 > 0)) fun x26 =>
    cond x26 ((ix y7_2 y7_1).bind fun x27 =>
    bnd (w64 (y7_1 - 1)) fun x28 =>
    (ix y7_2 x28).bind fun x29 =>
    (show Option ((Int)) from
    (d_voucher_Plain_2 x27).bind fun x33 =>
    (d_voucher_Plain_2 x29).bind fun x34 =>
    (d_cmp_Compare_int x33 x34).bind fun x35 =>
    some (x35 : Int)).bind <| fun y8_1 =>
    bnd (decide (y8_1 < 0)) fun x36 =>
    some (x36 : Bool)) (some (false : Bool))).bind <| fun y10_1 =>
    cond y10_1 (bnd (w64 (y7_1 - 1)) fun x37 =>
    bnd (w64 (y7_1 - 1)) fun x38 =>
    (ix y7_2 x38).bind fun x39 =>
    (ix y7_2 y7_1).bind fun x40 =>
    bnd (y7_2.set (Int.toNat y7_1) (x39 : GLine)) fun x41 =>
    (ix x41 x37).bind fun x42 =>
    bnd (x41.set (Int.toNat x37) (x40 : GLine)) fun x43 =>
    bnd (w64 (y7_1 - 1)) fun x44 =>
    d_voucher_Plain_L3 n (x44 : Int) (x43 : List GLine)) (some (y7_2 : List GLine))
def d_voucher_Plain_L2 (a1 : List GLine) : Nat → Int → (List GLine) → Option ((List GLine))
  | 0, _, _ => none
  | n + 1, y6_1, y6_2 =>
    bnd (decide (y6_1 < (a1.length : Int))) fun x22 =>
    cond x22 ((show Option ((List GLine)) from
    (show Option ((List GLine)) from
    d_voucher_Plain_L3 n (y6_1 : Int) (y6_2 : List GLine)).bind <| fun y11_1 =>
    some (y11_1 : List GLine)).bind <| fun y12_1 =>
    bnd (w64 (y6_1 + 1)) fun x45 =>
    d_voucher_Plain_L2 a1 n (x45 : Int) (y12_1 : List GLine)) (some (y6_2 : List GLine))
def d_voucher_Plain_L4 (a1 : List GLine) : Nat → Option (Unit)
  | 0 => none
  | n + 1 =>
    bnd (decide (20 < (a1.length : Int))) fun x48 =>
    asrt (x48 = false) <|
    some ()
def d_voucher_Plain_L5 (a1 : List GLine) (y19_1 : List GLine) : Nat → Int → (List GLine) → Option (((List GLine)) ⊕ ((List GLine) × Int))
  | 0, _, _ => none
  | n + 1, y20_2, y20_3 =>
    bnd (decide (y20_2 < (a1.length : Int))) fun x53 =>
    cond x53 ((show Option (((List GLine)) ⊕ (((List GLine)) ⊕ ((List GLine) × Int))) from
    (ix y19_1 y20_2).bind fun x55 =>
    bnd (w64 ((y20_3.length : Int) - 1)) fun x57 =>
    (show Option (Bool) from
    bnd (decide (x57 ≥ 0)) fun x59 =>
    cond x59 ((ix y20_3 x57).bind fun x60 =>
    bnd (decide (x60.Account = x55.Account)) fun x61 =>
    some (x61 : Bool)) (some (false : Bool))).bind <| fun y21_1 =>
    cond y21_1 ((ix y20_3 x57).bind fun x65 =>
    (d_money_Add x65.Amount x55.Amount).bind fun x66 =>
    bnd (decide (x66.2 ≠ 0)) fun x67 =>
    cond x67 (esc (esc (some (([] : List GLine), (x66.2 : Int))))) (bnd (y20_3.set (Int.toNat x57) ((⟨x65.Account, x66.1⟩ : GLine) : GLine)) fun x68 =>
    brk (x68 : List GLine))) (bnd (y20_3 ++ ([x55] : List GLine)) fun x62 =>
    asrt (x62.length ≤ 68719476736) <|
    brk (x62 : List GLine))).bind <| sel <| fun y22_2 =>
    bnd (w64 (y20_2 + 1)) fun x71 =>
    d_voucher_Plain_L5 a1 y19_1 n (x71 : Int) (y22_2 : List GLine)) (brk (y20_3 : List GLine))
def d_voucher_Plain_L6 (y23_2 : List GLine) : Nat → Int → Option ((Unit) ⊕ ((Int)))
  | 0, _ => none
  | n + 1, y24_1 =>
    bnd (decide (y24_1 < (y23_2.length : Int))) fun x75 =>
    cond x75 ((ix y23_2 y24_1).bind fun x76 =>
    (d_voucher_Plain_3 x76).bind fun x77 =>
    cond x77 (esc (some (y24_1 : Int))) (bnd (w64 (y24_1 + 1)) fun x78 =>
    d_voucher_Plain_L6 y23_2 n (x78 : Int))) (brk ())
def d_voucher_Plain_L7 : Nat → Int → Int → (List GLine) → Option (Int × (List GLine))
  | 0, _, _, _ => none
  | n + 1, y27_1, y27_2, y27_3 =>
    bnd (decide (y27_2 < (y27_3.length : Int))) fun x83 =>
    cond x83 ((show Option (Int × (List GLine)) from
    (ix y27_3 y27_2).bind fun x85 =>
    (d_voucher_Plain_3 x85).bind fun x87 =>
    bnd (!x87) fun x88 =>
    cond x88 ((ix y27_3 y27_1).bind fun x89 =>
    bnd (y27_3.set (Int.toNat y27_1) (x85 : GLine)) fun x90 =>
    bnd (w64 (y27_1 + 1)) fun x91 =>
    some ((x91 : Int), (x90 : List GLine))) (some ((y27_1 : Int), (y27_3 : List GLine)))).bind <| p2 fun (y28_1 : Int) (y28_2 : List GLine) =>
    bnd (w64 (y27_2 + 1)) fun x92 =>
    d_voucher_Plain_L7 n (y28_1 : Int) (x92 : Int) (y28_2 : List GLine)) (some ((y27_1 : Int), (y27_3 : List GLine)))
def d_voucher_Plain (n : Nat) (a1 : List GLine) : Option ((List GLine) × Int) :=
(show Option ((Bool)) from
(show Option ((Int)) from
(show Option ((Unit) ⊕ ((Int))) from
d_voucher_Plain_L0 a1 n (0 : Int)).bind <| sel <| fun _ =>
some ((-1) : Int)).bind <| fun y2_1 =>
bnd (decide (y2_1 ≥ 0)) fun x10 =>
some (x10 : Bool)).bind <| fun y3_1 =>
cond y3_1 (some (([] : List GLine), (1 : Int))) (asrt (a1.length ≤ 68719476736) <|
(show Option (((List GLine))) from
(show Option (((List GLine))) from
(show Option (((List GLine))) from
(show Option (Unit) from
d_voucher_Plain_L1 a1 n).bind <| fun _ =>
(show Option (((List GLine))) from
(show Option ((List GLine)) from
d_voucher_Plain_L2 a1 n (1 : Int) (a1 : List GLine)).bind <| fun y13_1 =>
some (y13_1 : List GLine)).bind <| fun y14_1 =>
asrt (y14_1.length = a1.length) <|
(show Option (Unit) from
d_voucher_Plain_L4 a1 n).bind <| fun _ =>
some (y14_1 : List GLine)).bind <| fun y17_1 =>
some (y17_1 : List GLine)).bind <| fun y18_1 =>
some (y18_1 : List GLine)).bind <| fun y19_1 =>
asrt (y19_1.length = a1.length) <|
(show Option (((List GLine)) ⊕ ((List GLine) × Int)) from
d_voucher_Plain_L5 a1 y19_1 n (0 : Int) (([] : List GLine) : List GLine)).bind <| sel <| fun y23_2 =>
(show Option ((Nat × Nat × (List GLine))) from
(show Option ((Int)) from
(show Option ((Unit) ⊕ ((Int))) from
d_voucher_Plain_L6 y23_2 n (0 : Int)).bind <| sel <| fun _ =>
some ((-1) : Int)).bind <| fun y26_1 =>
bnd (decide (y26_1 = (-1))) fun x80 =>
cond x80 (some ((0 : Nat), (y23_2.length : Nat), (y23_2 : List GLine))) (bnd (w64 (y26_1 + 1)) fun x81 =>
(show Option (Int × (List GLine)) from
d_voucher_Plain_L7 n (y26_1 : Int) (x81 : Int) (y23_2 : List GLine)).bind <| p2 fun (y29_1 : Int) (y29_2 : List GLine) =>
asrt ((0 : Int) ≤ y29_1 ∧ y29_1 < (y29_2.length : Int)) <|
bnd (y29_2.take (0 + y29_1.toNat)) fun x94 =>
asrt ((0 : Int) ≤ y29_1 ∧ y29_1 ≤ (y29_2.length : Int)) <|
some (((0 + 0) : Nat), ((y29_1.toNat - 0) : Nat), (x94 : List GLine)))).bind <| p2 fun (y30_1 : Nat) (q0 : Nat × (List GLine)) => (p2 fun (y30_2 : Nat) (y30_3 : List GLine) =>
asrt (y30_1 + y30_2 ≤ y30_3.length) <|
some (((((y30_3).drop y30_1).take y30_2) : List GLine), (0 : Int))) q0)
theorem d_voucher_Plain_c {n : Nat} {a1 : List GLine} {r : (List GLine) × Int} (h0 : d_voucher_Plain n a1 = some r) : PP Tryz.prog 108 [lst 2 GLine.av a1] (fun y => y = .tup [lst 2 GLine.av r.1, int r.2]) := by
  unfold d_voucher_Plain at h0
  refine pp_of_pc (R0 := fun y H => Cv (frzH H) y (.tup [lst 2 GLine.av r.1, int r.2])) ?_ (fun y H hc => ⟨_, rfl, .tup (pvl2 ((pvLs GLine.pvc) (r.1)) (pvI (r.2))), hc⟩)
  refine pcw (c := _) Tryz.func108 rfl rfl ?_; intro Q hret hnorm
  refine tc tbk 9 (.mk ?_)
  obtain ⟨j2, h1, h0⟩ := bind_e h0
  refine rse (Out := fun y H' => (∃ (a : Bool) (k : Unit), a = j2 ∧ y = boo a ∧ H' = hk [])) rfl rfl rfl (yl_call rfl rfl (.cons rfl (.cons rfl .nil)) cal151 ?_) ?_
  refine pcw (c := _) Tryz.func151 rfl rfl ?_; intro Q hret hnorm
  refine tc tbk 8 (.mk ?_)
  obtain ⟨j3, h2, h1⟩ := bind_e h1
  refine rse (Out := fun y H' => (∃ (a : Int) (k : Unit), a = j3 ∧ y = int a ∧ H' = hk [])) rfl rfl rfl (yl_call rfl rfl (.cons rfl (.cons rfl .nil)) cal191 ?_) ?_
  refine pcw (c := _) Tryz.func191 rfl rfl ?_; intro Q hret hnorm
  refine tc tbk 8 (.mk ?_)
  refine sY (yv_len_sl rfl Tryz.underlying82 rfl (lst_len _)) ?_
  refine tr tbk 2 (.mk ?_)
  refine jnE h2 [4] [] (fun (a : Unit) (k : Unit) => []) (fun a k => []) ⟨fun j4 h3 h2 => ?_, ?_⟩
  refine tc tbk 1 (.mk ?_)
  refine lp (fun n (a : Int) => d_voucher_Plain_L0 a1 n a) (0 : Int) () h3 [0, 1, 4, 7] [] (fun (a : Int) (k : Unit) => [(8, int a)]) (fun a k => []) (fun _ => rfl) ⟨leA, ?_⟩
  rintro n y0_1 _ hm h3
  replace h3 : d_voucher_Plain_L0 a1 (n + 1) y0_1 = some _ := h3
  rw [d_voucher_Plain_L0] at h3
  refine tc tbk 2 (.mk ?_)
  refine nb tbk h3 fun x5 h3 => ?_
  refine tr tbk 2 (.mk ?_)
  cases x5
  replace h3 := cf h3
  refine tc tbk 2 (.mk ?_)
  exact lfE h3 () leA
  replace h3 := ct h3
  refine tc tbk 14 (.mk ?_)
  obtain ⟨x6, e6, h3⟩ := bind_e h3
  refine sY (yv_ixT rfl Tryz.underlying82 sh81 rfl rfl e6) ?_
  refine tr tbk 1 (.mk ?_)
  obtain ⟨x7, e7, h3⟩ := bind_e h3
  refine sC cal152 (d_voucher_Plain_1_c e7) ?_
  refine tr tbk 1 (.mk ?_)
  cases x7
  replace h3 := cf h3
  refine tc tbk 4 (.mk ?_)
  refine ni tbk h3 fun x8 h3 => ?_
  refine tr tbk 2 (.mk ?_)
  exact bk x8 () h3 leA
  replace h3 := ct h3
  refine tc tbk 6 (.mk ?_)
  obtain ⟨c9, hX, hj⟩ := esc_e h3; subst hj; replace h2 := hX.trans (sel_r h2)
  obtain rfl := nxt_e h2
  refine w_ret (hret _ _ (hk []) (.tmp rfl .nil) (fun _ _ h => nomatch h) ?_)
  exact ⟨y0_1, (), rfl, rfl, rfl⟩
  rintro _ _ h2
  refine tc tbk 4 (.mk ?_)
  obtain rfl := nxt_e h2
  refine w_ret (hret _ _ (hk []) (.tmp rfl .nil) (fun _ _ h => nomatch h) ?_)
  exact ⟨(-1), (), rfl, rfl, rfl⟩
  rintro y _ ⟨y2_1, _, rfl, hc, rfl⟩
  subst hc
  refine nb tbk h1 fun x10 h1 => ?_
  refine tr tbk 2 (.mk ?_)
  obtain rfl := nxt_e h1
  refine w_ret (hret _ _ (hk []) (.tmp rfl .nil) (fun _ _ h => nomatch h) ?_)
  exact ⟨x10, (), rfl, rfl, rfl⟩
  rintro y _ ⟨y3_1, _, rfl, hc, rfl⟩
  subst hc
  refine tr tbk 1 (.mk ?_)
  cases y3_1
  replace h0 := cf h0
  refine tc tbk 5 (.mk ?_)
  obtain ⟨p11, h0⟩ := asrt_e h0
  refine rse rfl rfl rfl (yl_call rfl rfl (.cons rfl .nil) cal155 (pc_cv (clone155_c (id := 1) (l := a1) rfl p11) (.cons (.refl _) .nil))) ?_; rintro _ _ ⟨v12, rfl, rfl⟩
  refine tr tbk 5 (.mk ?_)
  obtain ⟨j13, h1, h0⟩ := bind_e h0
  refine rse (Out := fun y H' => (∃ (a : (List GLine)) (k : Unit), a = j13 ∧ y = .tup [] ∧ H' = hk [(1, ⟨81, 2, true, true, v12, a.map GLine.av⟩)])) rfl rfl rfl (yl_call rfl rfl (.cons rfl (.cons rfl .nil)) cal156 ?_) ?_
  refine pcw (c := _) Tryz.func156 rfl rfl ?_; intro Q hret hnorm
  refine tc tbk 2 (.mk ?_)
  refine sB 2 fun v14 => ?_
  refine tr tbk 4 (.mk ?_)
  obtain ⟨j15, h2, h1⟩ := bind_e h1
  refine rse (Out := fun y H' => (∃ (a : (List GLine)) (k : Unit), a = j15 ∧ y = .tup [] ∧ H' = hk [(1, ⟨81, 2, true, true, v12, a.map GLine.av⟩), (2, ⟨203, 1, true, true, v14, [[.fn (.func 157) [] []]]⟩)])) rfl rfl rfl (yl_call rfl rfl (.cons rfl (.cons rfl .nil)) cal192 ?_) ?_
  refine pcw (c := _) Tryz.func192 rfl rfl ?_; intro Q hret hnorm
  refine tc tbk 3 (.mk ?_)
  refine sY (yv_len_sl rfl Tryz.underlying82 rfl (.sl rfl rfl)) ?_
  refine tr tbk 1 (.mk ?_)
  obtain ⟨j16, h3, h2⟩ := bind_e h2
  refine rse (Out := fun y H' => (∃ (a : (List GLine)) (k : Unit), a = j16 ∧ y = .tup [] ∧ H' = hk [(1, ⟨81, 2, true, true, v12, a.map GLine.av⟩), (2, ⟨203, 1, true, true, v14, [[.fn (.func 157) [] []]]⟩)])) rfl rfl rfl (yl_call rfl rfl (.cons rfl (.cons rfl (.cons rfl .nil))) cal222 ?_) ?_
  refine pcw (c := _) Tryz.func222 rfl rfl ?_; intro Q hret hnorm
  refine tc tbk 11 (.mk ?_)
  refine jn h3 [0, 1, 2, 6, 7] [1, 2] (fun (a : Unit) (k : Unit) => []) (fun a k => []) ⟨fun j17 h4 => ?_, ?_⟩
  refine tc tbk 1 (.mk ?_)
  refine lp (fun n (a : Unit) => d_voucher_Plain_L1 a1 n) () () h4 [0, 1, 2, 6, 7, 8] [1, 2] (fun (a : Unit) (k : Unit) => []) (fun a k => []) (fun _ => rfl) ⟨leA, ?_⟩
  rintro n _ _ hm h4
  replace h4 : d_voucher_Plain_L1 a1 (n + 1) = some _ := h4
  rw [d_voucher_Plain_L1] at h4
  refine tc tbk 5 (.mk ?_)
  refine nb tbk h4 fun x18 h4 => ?_
  refine tr tbk 1 (.mk ?_)
  obtain ⟨p19, h4⟩ := asrt_e h4
  subst p19
  refine tc tbk 2 (.mk ?_)
  exact lf h4 () leA
  rintro _ _ h3
  refine tc tbk 6 (.mk ?_)
  obtain ⟨j20, h4, h3⟩ := bind_e h3
  refine rse (Out := fun y H' => (∃ (a : (List GLine)) (k : Unit), a = j20 ∧ y = .tup [] ∧ H' = hk [(1, ⟨81, 2, true, true, v12, a.map GLine.av⟩), (2, ⟨203, 1, true, true, v14, [[.fn (.func 157) [] []]]⟩)])) rfl rfl rfl (yl_call rfl rfl (.cons rfl (.cons rfl (.cons rfl (.cons rfl .nil)))) cal240 ?_) ?_
  refine pcw (c := _) Tryz.func240 rfl rfl ?_; intro Q hret hnorm
  refine tc tbk 3 (.mk ?_)
  refine sY (yv_add (r := 1) rfl rfl rfl (by decide)) ?_
  refine tr tbk 2 (.mk ?_)
  refine jn h4 [] [2] (fun (a : (List GLine)) (k : Unit) => []) (fun a k => [(1, ⟨81, 2, true, true, v12, a.map GLine.av⟩)]) ⟨fun j21 h5 => ?_, ?_⟩
  refine tc tbk 1 (.mk ?_)
  refine lp (fun n (a : Int × (List GLine)) => d_voucher_Plain_L2 a1 n a.1 a.2) ((1 : Int), (a1 : List GLine)) () h5 [1, 2, 3] [2] (fun (a : Int × (List GLine)) (k : Unit) => [(0, .sl 1 v12 0 a.2.length), (8, int a.1)]) (fun a k => [(1, ⟨81, 2, true, true, v12, a.2.map GLine.av⟩)]) (fun _ => rfl) ⟨leA, ?_⟩
  rintro n ⟨y6_1, y6_2⟩ _ hm h5
  replace h5 : d_voucher_Plain_L2 a1 (n + 1) y6_1 y6_2 = some _ := h5
  rw [d_voucher_Plain_L2] at h5
  refine tc tbk 5 (.mk ?_)
  refine nb tbk h5 fun x22 h5 => ?_
  refine tr tbk 1 (.mk ?_)
  cases x22
  replace h5 := cf h5
  refine tc tbk 2 (.mk ?_)
  exact lf h5 () leA
  replace h5 := ct h5
  refine tc tbk 3 (.mk ?_)
  refine jn h5 [1, 2, 3, 8] [2] (fun (a : (List GLine)) (k : Unit) => [(0, .sl 1 v12 0 a.length)]) (fun a k => [(1, ⟨81, 2, true, true, v12, a.map GLine.av⟩)]) ⟨fun j23 h6 => ?_, ?_⟩
  refine tc tbk 6 (.mk ?_)
  refine jn h6 [1, 2, 3, 8] [2] (fun (a : (List GLine)) (k : Unit) => [(0, .sl 1 v12 0 a.length)]) (fun a k => [(1, ⟨81, 2, true, true, v12, a.map GLine.av⟩)]) ⟨fun j24 h7 => ?_, ?_⟩
  refine tc tbk 1 (.mk ?_)
  refine lp (fun n (a : Int × (List GLine)) => d_voucher_Plain_L3 n a.1 a.2) ((y6_1 : Int), (y6_2 : List GLine)) () h7 [1, 2, 3, 8] [2] (fun (a : Int × (List GLine)) (k : Unit) => [(0, .sl 1 v12 0 a.2.length), (9, int a.1)]) (fun a k => [(1, ⟨81, 2, true, true, v12, a.2.map GLine.av⟩)]) (fun _ => rfl) ⟨leA, ?_⟩
  rintro n ⟨y7_1, y7_2⟩ _ hm h7
  replace h7 : d_voucher_Plain_L3 (n + 1) y7_1 y7_2 = some _ := h7
  rw [d_voucher_Plain_L3] at h7
  refine tc tbk 2 (.mk ?_)
  refine jn h7 [0, 1, 2, 3, 8, 9] [1, 2] (fun (a : Bool) (k : Unit) => [(34, boo a)]) (fun a k => []) ⟨fun j25 h8 => ?_, ?_⟩
  refine c_drawE [0, 0, 3, 7, 15, 15, 15, 111, 239, 15, 15, 1039, 3599, 7695, 16383, 32767, 65535] (rl [(7, [1]), (8, [1]), (12, [1]), (13, [1])] []) (rl [(14, [])] [1]) (rl [(14, false)] true) [0, 1, 2, 3, 4, 5, 6, 7, 8, 9, 10, 11, 12, 13, 14, 15, 16] mixed (by kernel_rfl) ?_; intro K hK
  iterate 2 refine eM ?_
  obtain ⟨x26, e26, h8⟩ := bnd_e h8
  refine eP (fun H hH => yv_to (y := boo x26) (yv_gtr rfl rfl rfl) (congrArg boo e26)) ?_
  refine eM ?_
  cases x26
  replace h8 := cf h8
  refine de_skip rfl rfl rfl ?_
  refine de_skip rfl rfl rfl ?_
  refine de_skip rfl rfl rfl ?_
  refine de_skip rfl rfl rfl ?_
  refine de_skip rfl rfl rfl ?_
  refine de_skip rfl rfl rfl ?_
  refine de_skip rfl rfl rfl ?_
  refine de_skip rfl rfl rfl ?_
  refine de_skip rfl rfl rfl ?_
  refine de_skip rfl rfl rfl ?_
  refine de_skip rfl rfl rfl ?_
  refine de_skip rfl rfl rfl ?_
  refine eP (fun H hH => yv_pick rfl rfl (fun _ => rfl) (fun _ => rfl) rfl) ?_
  refine de_nil (hK _ ?_)
  exact lf h8 () leA
  replace h8 := ct h8
  iterate 3 refine eM ?_
  obtain ⟨x27, e27, h8⟩ := bind_e h8
  refine de_pure rfl rfl rfl rfl (fun H hH => yv_ixO rfl Tryz.underlying82 sh81 rfl rfl ((hH _ (by decide)).trans rfl) rfl rfl (Eq.symm rfl) (List.length_map _) e27) ?_
  refine eL sh81 (hr := ix_get e27) ?_
  iterate 2 refine eM ?_
  obtain ⟨x28, e28, h8⟩ := bnd_e h8
  refine eP (fun H hH => yv_sub rfl rfl rfl e28) ?_
  obtain ⟨x29, e29, h8⟩ := bind_e h8
  refine de_pure rfl rfl rfl rfl (fun H hH => yv_ixO rfl Tryz.underlying82 sh81 rfl rfl ((hH _ (by decide)).trans rfl) rfl rfl (Eq.symm rfl) (List.length_map _) e29) ?_
  refine eL sh81 (hr := ix_get e29) ?_
  obtain ⟨j30, h9, h8⟩ := bind_e h8
  refine de_eff (Out := fun y H' => (∃ (a : Int) (k : Unit), a = j30 ∧ y = int a ∧ H' = hk [(1, ⟨81, 2, true, true, v12, y7_2.map GLine.av⟩), (2, ⟨203, 1, true, true, v14, [[.fn (.func 157) [] []]]⟩)])) rfl rfl rfl rfl (yl_call rfl rfl (.cons rfl (.cons rfl .nil)) cal193 ?_) (by rintro y _ ⟨y8_1, _, rfl, hc, rfl⟩ <;> exact trivial) ?_
  refine pcw (c := _) Tryz.func193 rfl rfl ?_; intro Q hret hnorm
  refine tc tbk 2 (.mk ?_)
  refine sB 3 fun v31 => ?_
  refine sB 4 fun v32 => ?_
  refine tr tbk 3 (.mk ?_)
  refine c_drawE [0, 0, 3, 0, 0, 31, 63, 127] (rl [(0, [2]), (1, [3]), (3, [2]), (4, [4])] []) (fun i => [2, 3, 4]) (fun i => true) [0, 1, 2, 3, 4, 5, 6, 7] mixed (by kernel_rfl) ?_; intro K hK
  refine eL sh203 ?_
  refine eL sh81 ?_
  obtain ⟨x33, e33, h9⟩ := bind_e h9
  refine eP (fun H hH => yv_callP rfl rfl (.cons rfl .nil) cal157 (CvL.refl _) (d_voucher_Plain_2_c e33)) ?_
  refine eL sh203 ?_
  refine eL sh81 ?_
  obtain ⟨x34, e34, h9⟩ := bind_e h9
  refine eP (fun H hH => yv_callP rfl rfl (.cons rfl .nil) cal157 (CvL.refl _) (d_voucher_Plain_2_c e34)) ?_
  obtain ⟨x35, e35, h9⟩ := bind_e h9
  refine eP (fun H hH => yv_callP rfl rfl (.cons rfl (.cons rfl .nil)) cal194 (CvL.refl _) (d_cmp_Compare_int_c e35)) ?_
  refine eA ?_
  refine de_nil (hK _ ?_)
  obtain rfl := nxt_e h9
  refine w_ret (hret _ _ (hk [(1, ⟨81, 2, true, true, v12, y7_2.map GLine.av⟩), (2, ⟨203, 1, true, true, v14, [[.fn (.func 157) [] []]]⟩)]) (.tmp rfl .nil) (HK.le ⟨rfl, rfl, trivial⟩) ?_)
  exact ⟨x35, (), rfl, rfl, rfl⟩
  rintro y _ ⟨y8_1, _, rfl, hc, rfl⟩
  subst hc
  obtain ⟨x36, e36, h8⟩ := bnd_e h8
  refine eP (fun H hH => yv_to (y := boo x36) (yv_lss rfl rfl rfl) (congrArg boo e36)) ?_
  refine eP (fun H hH => yv_pick rfl rfl (fun _ => rfl) (fun _ => rfl) rfl) ?_
  refine de_nil (hK _ ?_)
  exact lf h8 () leA
  rintro y10_1 _ h7
  cases y10_1
  replace h7 := cf h7
  refine tc tbk 2 (.mk ?_)
  exact lf h7 () leA
  replace h7 := ct h7
  refine tc tbk 4 (.mk ?_)
  refine c_drawE [0, 0, 0, 0, 8, 0, 0, 64, 224, 480, 0, 0, 3072, 7168, 16355, 32739, 65535, 131071] (rl [(8, [1]), (9, [1]), (12, [1]), (13, [1]), (14, [1]), (16, [1])] []) (rl [(15, []), (17, [])] [1]) (rl [(15, false), (17, false)] true) [0, 1, 2, 3, 4, 5, 6, 7, 8, 9, 10, 11, 12, 13, 14, 15, 16, 17] mixed (by kernel_rfl) ?_; intro K hK
  iterate 4 refine eM ?_
  obtain ⟨x37, e37, h7⟩ := bnd_e h7
  refine eP (fun H hH => yv_sub rfl rfl rfl e37) ?_
  iterate 2 refine eM ?_
  obtain ⟨x38, e38, h7⟩ := bnd_e h7
  refine eP (fun H hH => yv_sub rfl rfl rfl e38) ?_
  obtain ⟨x39, e39, h7⟩ := bind_e h7
  refine de_pure rfl rfl rfl rfl (fun H hH => yv_ixO rfl Tryz.underlying82 sh81 rfl rfl ((hH _ (by decide)).trans rfl) rfl rfl (Eq.symm rfl) (List.length_map _) e39) ?_
  refine eL sh81 (hr := ix_get e39) ?_
  iterate 2 refine eM ?_
  obtain ⟨x40, e40, h7⟩ := bind_e h7
  refine de_pure rfl rfl rfl rfl (fun H hH => yv_ixO rfl Tryz.underlying82 sh81 rfl rfl ((hH _ (by decide)).trans rfl) rfl rfl (Eq.symm rfl) (List.length_map _) e40) ?_
  refine eL sh81 (hr := ix_get e40) ?_
  refine de_pure rfl rfl rfl rfl (fun H hH => yv_ixO rfl Tryz.underlying82 sh81 rfl rfl ((hH _ (by decide)).trans rfl) rfl rfl (Eq.symm rfl) (List.length_map _) e40) ?_
  obtain ⟨x41, e41, h7⟩ := bnd_e h7
  have fx41 := ix_set e40 e41; have lx41 := len_setV e41 (rfl : y7_2.length = y7_2.length)
  refine de_eff0 rfl rfl rfl rfl (Yield.weak (yl_ob (ob' := (⟨81, 2, true, true, v12, x41.map GLine.av⟩ : AObj)) (yl_store rfl sh81 rfl rfl rfl rfl rfl (ix_get e40) rfl rfl rfl) (ob_eq (map_setV e41))) (fun _ h => h) (fun _ _ => trivial)) (by rintro _ _ ⟨rfl, rfl⟩; exact trivial) ?_; rintro _ _ ⟨rfl, rfl⟩
  obtain ⟨x42, e42, h7⟩ := bind_e h7
  refine de_pure rfl rfl rfl rfl (fun H hH => yv_ixO rfl Tryz.underlying82 sh81 rfl rfl ((hH _ (by decide)).trans rfl) rfl rfl (Eq.symm lx41) (List.length_map _) e42) ?_
  obtain ⟨x43, e43, h7⟩ := bnd_e h7
  have fx43 := ix_set e42 e43; have lx43 := len_setV e43 lx41
  refine de_eff0 rfl rfl rfl rfl (Yield.weak (yl_ob (ob' := (⟨81, 2, true, true, v12, x43.map GLine.av⟩ : AObj)) (yl_store rfl sh81 rfl rfl rfl rfl rfl (ix_get e42) rfl rfl rfl) (ob_eq (map_setV e43))) (fun _ h => h) (fun _ _ => trivial)) (by rintro _ _ ⟨rfl, rfl⟩; exact trivial) ?_; rintro _ _ ⟨rfl, rfl⟩
  refine de_nil (hK _ ?_)
  refine tc tbk 3 (.mk ?_)
  refine ni tbk h7 fun x44 h7 => ?_
  refine tr tbk 2 (.mk ?_)
  exact bk (x44, x43) () h7 (leH_kn ⟨⟨_, rfl, (cv_slen (Eq.symm lx43))⟩, ⟨_, rfl, (.refl _)⟩, ⟨_, rfl, (.refl _)⟩, ⟨_, rfl, (.refl _)⟩, ⟨_, rfl, (.refl _)⟩, ⟨_, rfl, (.refl _)⟩, trivial⟩ ⟨⟨_, rfl, (.refl _)⟩, ⟨_, rfl, (.refl _)⟩, trivial⟩)
  rintro y11_1 _ h6
  refine tc tbk 1 (.mk ?_)
  exact lf h6 () leA
  rintro y12_1 _ h5
  refine tc tbk 2 (.mk ?_)
  refine ni tbk h5 fun x45 h5 => ?_
  refine tr tbk 2 (.mk ?_)
  exact bk (x45, y12_1) () h5 leA
  rintro y13_1 _ h4
  obtain rfl := nxt_e h4
  refine c_nil (hnorm _ _ (hk [(1, ⟨81, 2, true, true, v12, y13_1.map GLine.av⟩), (2, ⟨203, 1, true, true, v14, [[.fn (.func 157) [] []]]⟩)]) .nil (HK.le ⟨rfl, rfl, trivial⟩) ?_)
  exact ⟨y13_1, (), rfl, rfl, rfl⟩
  rintro y _ ⟨y14_1, _, rfl, hc, rfl⟩
  subst hc
  refine tr tbk 1 (.mk ?_)
  obtain ⟨p46, h3⟩ := asrt_e h3
  refine jn h3 [] [1, 2] (fun (a : Unit) (k : Unit) => []) (fun a k => []) ⟨fun j47 h4 => ?_, ?_⟩
  refine tc tbk 1 (.mk ?_)
  refine lp (fun n (a : Unit) => d_voucher_Plain_L4 a1 n) () () h4 [0, 1, 2, 6] [1, 2] (fun (a : Unit) (k : Unit) => []) (fun a k => []) (fun _ => rfl) ⟨leA, ?_⟩
  rintro n _ _ hm h4
  replace h4 : d_voucher_Plain_L4 a1 (n + 1) = some _ := h4
  rw [d_voucher_Plain_L4] at h4
  refine tc tbk 5 (.mk ?_)
  refine nb tbk h4 fun x48 h4 => ?_
  refine tr tbk 1 (.mk ?_)
  obtain ⟨p49, h4⟩ := asrt_e h4
  subst p49
  refine tc tbk 2 (.mk ?_)
  exact lf h4 () leA
  rintro _ _ h3
  obtain rfl := nxt_e h3
  refine c_nil (hnorm _ _ (hk [(1, ⟨81, 2, true, true, v12, y14_1.map GLine.av⟩), (2, ⟨203, 1, true, true, v14, [[.fn (.func 157) [] []]]⟩)]) .nil (HK.le ⟨rfl, rfl, trivial⟩) ?_)
  exact ⟨y14_1, (), rfl, rfl, rfl⟩
  rintro y _ ⟨y17_1, _, rfl, hc, rfl⟩
  subst hc
  refine tr tbk 1 (.mk ?_)
  obtain rfl := nxt_e h2
  refine g_nil (hnorm _ _ (hk [(1, ⟨81, 2, true, true, v12, y17_1.map GLine.av⟩), (2, ⟨203, 1, true, true, v14, [[.fn (.func 157) [] []]]⟩)]) .nil (HK.le ⟨rfl, rfl, trivial⟩) ?_)
  exact ⟨y17_1, (), rfl, rfl, rfl⟩
  rintro y _ ⟨y18_1, _, rfl, hc, rfl⟩
  subst hc
  refine tr tbk 1 (.mk ?_)
  obtain rfl := nxt_e h1
  refine g_nil (hnorm _ _ (hk [(1, ⟨81, 2, true, true, v12, y18_1.map GLine.av⟩)]) .nil (HK.le ⟨rfl, trivial⟩) ?_)
  exact ⟨y18_1, (), rfl, rfl, rfl⟩
  rintro y _ ⟨y19_1, _, rfl, hc, rfl⟩
  subst hc
  refine tr tbk 8 (.mk ?_)
  obtain ⟨p50, h0⟩ := asrt_e h0
  refine sY (yv_move rfl rfl) ?_
  refine sY (yv_len_sl rfl Tryz.underlying82 rfl (.sl rfl rfl)) ?_
  refine tr tbk 2 (.mk ?_)
  refine jnE h0 [2, 3] [] (fun (a : (List GLine)) (k : Nat) => [(5, .sl 7 k 0 a.length)]) (fun a k => [(7, ⟨81, 2, true, true, k, a.map GLine.av⟩)]) ⟨fun j51 h1 h0 => ?_, ?_⟩
  refine tc tbk 1 (.mk ?_)
  refine c_nilobj 5 7 81 2 rfl rfl ?_; intro v52
  refine lp (fun n (a : Int × (List GLine)) => d_voucher_Plain_L5 a1 y19_1 n a.1 a.2) ((0 : Int), (([] : List GLine) : List GLine)) v52 h1 [2, 3, 17, 18] [1] (fun (a : Int × (List GLine)) (k : Nat) => [(5, .sl 7 k 0 a.2.length), (19, int a.1)]) (fun a k => [(7, ⟨81, 2, true, true, k, a.2.map GLine.av⟩)]) (fun _ => rfl) ⟨leA, ?_⟩
  rintro n ⟨y20_2, y20_3⟩ w20_1 hm h1
  replace h1 : d_voucher_Plain_L5 a1 y19_1 (n + 1) y20_2 y20_3 = some _ := h1
  rw [d_voucher_Plain_L5] at h1
  refine tc tbk 2 (.mk ?_)
  refine nb tbk h1 fun x53 h1 => ?_
  refine tr tbk 2 (.mk ?_)
  cases x53
  replace h1 := cf h1
  refine tc tbk 2 (.mk ?_)
  exact lfE h1 w20_1 leA
  replace h1 := ct h1
  refine tc tbk 3 (.mk ?_)
  refine jnE h1 [2, 3, 17, 18, 19] [1] (fun (a : (List GLine)) (k : Nat) => [(5, .sl 7 k 0 a.length)]) (fun a k => [(7, ⟨81, 2, true, true, k, a.map GLine.av⟩)]) ⟨fun j54 h2 h1 => ?_, ?_⟩
  refine tc tbk 3 (.mk ?_)
  obtain ⟨x55, e55, h2⟩ := bind_e h2
  refine sY (yv_ixO rfl Tryz.underlying82 sh81 rfl rfl rfl rfl rfl (Eq.symm p50) (List.length_map _) e55) ?_
  refine sY (yv_load rfl sh81 rfl (.pt rfl rfl (ix_get e55)) rfl) ?_
  refine sA 5 z81 fun v56 => ?_
  refine sS ⟨81, 2, true, true, v56, [[int x55.Account, int x55.Amount]]⟩ sh81 ?_
  refine tr tbk 5 (.mk ?_)
  refine sY (yv_len_sl rfl Tryz.underlying82 rfl (.sl rfl rfl)) ?_
  refine ni tbk h2 fun x57 h2 => ?_
  refine tr tbk 3 (.mk ?_)
  refine jn h2 [2, 3, 5, 7, 8, 17, 18, 19] [1, 5, 7] (fun (a : Bool) (k : Unit) => [(37, boo a)]) (fun a k => []) ⟨fun j58 h3 => ?_, ?_⟩
  refine c_drawE [0, 1, 3, 7, 7, 31, 63, 127, 7, 263, 1023, 2047] (rl [(5, [7]), (6, [7]), (7, [7]), (8, [5]), (9, [5])] []) (fun i => [5, 7]) (fun i => true) [0, 1, 2, 3, 4, 5, 6, 7, 8, 9, 10, 11] mixed (by kernel_rfl) ?_; intro K hK
  refine eM ?_
  obtain ⟨x59, e59, h3⟩ := bnd_e h3
  refine eP (fun H hH => yv_to (y := boo x59) (yv_geq rfl rfl rfl) (congrArg boo e59)) ?_
  refine eM ?_
  cases x59
  replace h3 := cf h3
  refine de_skip rfl rfl rfl ?_
  refine de_skip rfl rfl rfl ?_
  refine de_skip rfl rfl rfl ?_
  refine de_skip rfl rfl rfl ?_
  refine de_skip rfl rfl rfl ?_
  refine de_skip rfl rfl rfl ?_
  refine de_skip rfl rfl rfl ?_
  refine de_skip rfl rfl rfl ?_
  refine eP (fun H hH => yv_pick rfl rfl (fun _ => rfl) (fun _ => rfl) rfl) ?_
  refine de_nil (hK _ ?_)
  exact lf h3 () leA
  replace h3 := ct h3
  iterate 2 refine eM ?_
  obtain ⟨x60, e60, h3⟩ := bind_e h3
  refine de_pure rfl rfl rfl rfl (fun H hH => yv_ixO rfl Tryz.underlying82 sh81 rfl rfl ((hH _ (by decide)).trans rfl) rfl rfl (Eq.symm rfl) (List.length_map _) e60) ?_
  refine eF fo81_0 (hr := ix_get e60) ?_
  refine eL sh3 (hr := ix_get e60) ?_
  refine eF fo81_0 ?_
  refine eL sh3 ?_
  obtain ⟨x61, e61, h3⟩ := bnd_e h3
  refine eP (fun H hH => yv_to (y := boo x61) (yv_eql rfl rfl rfl) (congrArg boo e61)) ?_
  refine eP (fun H hH => yv_pick rfl rfl (fun _ => rfl) (fun _ => rfl) rfl) ?_
  refine de_nil (hK _ ?_)
  exact lf h3 () leA
  rintro y21_1 _ h2
  cases y21_1
  replace h2 := cf h2
  refine tc tbk 5 (.mk ?_)
  refine sY (yv_to (y := lst 2 GLine.av ([x55] : List GLine)) (yv_buildSlice (ps := [(0, _)]) (rows := [[int x55.Account, int x55.Amount]]) rfl Tryz.underlying82 bz81 (.cons rfl .nil) (by kernel_rfl) rfl rfl rfl) rfl) ?_
  obtain ⟨x62, e62, h2⟩ := bnd_e h2
  obtain ⟨p63, h2⟩ := asrt_e h2
  refine rse rfl rfl rfl (yl_appT (g := GLine.av) (l := y20_3) (m := ([x55] : List GLine)) .any rfl Tryz.underlying82 bz81 by81 rfl rfl rfl rfl rfl rfl rfl rfl rfl rfl (Eq.symm rfl) (.refl _) (fun _ => rfl) e62 p63) ?_; rintro _ _ ⟨v64, -, rfl, rfl⟩
  refine tr tbk 3 (.mk ?_)
  exact lfE h2 v64 leA
  replace h2 := ct h2
  refine tc tbk 2 (.mk ?_)
  refine c_drawE [0, 0, 3, 7, 15, 0, 32, 127, 255, 511, 511, 1023, 4095] (rl [(2, [7]), (3, [7]), (4, [7]), (5, [5]), (6, [5])] []) (fun i => [5, 7]) (fun i => true) [0, 1, 2, 3, 4, 5, 6, 7, 8, 9, 10, 11, 12] mixed (by kernel_rfl) ?_; intro K hK
  iterate 2 refine eM ?_
  obtain ⟨x65, e65, h2⟩ := bind_e h2
  refine de_pure rfl rfl rfl rfl (fun H hH => yv_ixO rfl Tryz.underlying82 sh81 rfl rfl ((hH _ (by decide)).trans rfl) rfl rfl (Eq.symm rfl) (List.length_map _) e65) ?_
  refine eF fo81_1 (hr := ix_get e65) ?_
  refine eL sh3 (hr := ix_get e65) ?_
  refine eF fo81_1 ?_
  refine eL sh3 ?_
  obtain ⟨x66, e66, h2⟩ := bind_e h2
  refine eP (fun H hH => yv_callP rfl rfl (.cons rfl (.cons rfl .nil)) cal136 (CvL.refl _) (d_money_Add_c e66)) ?_
  refine eM ?_
  iterate 2 refine eX ?_
  iterate 2 refine eA ?_
  refine de_nil (hK _ ?_)
  refine tc tbk 4 (.mk ?_)
  refine nb tbk h2 fun x67 h2 => ?_
  refine tr tbk 1 (.mk ?_)
  cases x67
  replace h2 := cf h2
  refine tc tbk 7 (.mk ?_)
  refine sY (yv_ixO rfl Tryz.underlying82 sh81 rfl rfl rfl rfl rfl (Eq.symm rfl) (List.length_map _) e65) ?_
  refine sY (yv_fieldAddr rfl fo81_1 rfl (.pt rfl rfl (ix_get e65)) (.pt _ _ _ _ _)) ?_
  obtain ⟨x68, e68, h2⟩ := bnd_e h2
  have fx68 := ix_set e65 e68; have lx68 := len_setV e68 (rfl : y20_3.length = y20_3.length)
  refine rsstore rfl rfl (yl_ob (ob' := (⟨81, 2, true, true, w20_1, x68.map GLine.av⟩ : AObj)) (yl_store rfl sh3 rfl rfl rfl rfl rfl (ix_get e65) rfl rfl rfl) (ob_eq (map_setV e68))) ?_
  refine tr tbk 2 (.mk ?_)
  exact lfE h2 w20_1 (leH_kn ⟨⟨_, rfl, (cv_slen (Eq.symm lx68))⟩, ⟨_, rfl, (.refl _)⟩, ⟨_, rfl, (.refl _)⟩, ⟨_, rfl, (.refl _)⟩, ⟨_, rfl, (.refl _)⟩, ⟨_, rfl, (.refl _)⟩, trivial⟩ ⟨⟨_, rfl, (.refl _)⟩, ⟨_, rfl, (.refl _)⟩, trivial⟩)
  replace h2 := ct h2
  refine tc tbk 7 (.mk ?_)
  obtain ⟨c69, hX, hj⟩ := esc_e h2; subst hj; replace h1 := hX.trans (sel_r h1)
  obtain ⟨c70, hX, hj⟩ := esc_e h1; subst hj; replace h0 := hX.trans (sel_r h0)
  obtain rfl := nxt_e h0
  refine wR hret (rT (rT .nil)) ?_
  exact CvL.tup (.cons (.nil _) (.cons (.refl _) .nil))
  rintro y22_2 w22_1 h1
  refine tc tbk 1 (.mk ?_)
  refine ni tbk h1 fun x71 h1 => ?_
  refine tr tbk 2 (.mk ?_)
  exact bk (x71, y22_2) w22_1 h1 leA
  rintro y23_2 w23_1 h0
  refine tc tbk 3 (.mk ?_)
  obtain ⟨j72, h1, h0⟩ := bind_e h0
  refine rse (Out := fun y H' => (∃ (a : Nat × Nat × (List GLine)) (k : Unit), a = j72 ∧ y = .sl 7 w23_1 a.1 a.2.1 ∧ H' = hk [(7, ⟨81, 2, true, true, w23_1, a.2.2.map GLine.av⟩)])) rfl rfl rfl (yl_call rfl rfl (.cons rfl (.cons rfl .nil)) cal158 ?_) ?_
  refine pcw (c := _) Tryz.func158 rfl rfl ?_; intro Q hret hnorm
  refine tc tbk 8 (.mk ?_)
  obtain ⟨j73, h2, h1⟩ := bind_e h1
  refine rse (Out := fun y H' => (∃ (a : Int) (k : Unit), a = j73 ∧ y = int a ∧ H' = hk [(7, ⟨81, 2, true, true, w23_1, y23_2.map GLine.av⟩)])) rfl rfl rfl (yl_call rfl rfl (.cons rfl (.cons rfl .nil)) cal191 ?_) ?_
  refine pcw (c := _) Tryz.func191 rfl rfl ?_; intro Q hret hnorm
  refine tc tbk 8 (.mk ?_)
  refine sY (yv_len_sl rfl Tryz.underlying82 rfl (.sl rfl rfl)) ?_
  refine tr tbk 2 (.mk ?_)
  refine jnE h2 [4] [7] (fun (a : Unit) (k : Unit) => []) (fun a k => []) ⟨fun j74 h3 h2 => ?_, ?_⟩
  refine tc tbk 1 (.mk ?_)
  refine lp (fun n (a : Int) => d_voucher_Plain_L6 y23_2 n a) (0 : Int) () h3 [0, 1, 4, 7] [7] (fun (a : Int) (k : Unit) => [(8, int a)]) (fun a k => []) (fun _ => rfl) ⟨leA, ?_⟩
  rintro n y24_1 _ hm h3
  replace h3 : d_voucher_Plain_L6 y23_2 (n + 1) y24_1 = some _ := h3
  rw [d_voucher_Plain_L6] at h3
  refine tc tbk 2 (.mk ?_)
  refine nb tbk h3 fun x75 h3 => ?_
  refine tr tbk 2 (.mk ?_)
  cases x75
  replace h3 := cf h3
  refine tc tbk 2 (.mk ?_)
  exact lfE h3 () leA
  replace h3 := ct h3
  refine tc tbk 14 (.mk ?_)
  obtain ⟨x76, e76, h3⟩ := bind_e h3
  refine sY (yv_ixO rfl Tryz.underlying82 sh81 rfl rfl rfl rfl rfl (Eq.symm rfl) (List.length_map _) e76) ?_
  refine sY (yv_load rfl sh81 rfl (.pt rfl rfl (ix_get e76)) rfl) ?_
  obtain ⟨x77, e77, h3⟩ := bind_e h3
  refine sC cal159 (d_voucher_Plain_3_c e77) ?_
  refine tr tbk 1 (.mk ?_)
  cases x77
  replace h3 := cf h3
  refine tc tbk 4 (.mk ?_)
  refine ni tbk h3 fun x78 h3 => ?_
  refine tr tbk 2 (.mk ?_)
  exact bk x78 () h3 leA
  replace h3 := ct h3
  refine tc tbk 6 (.mk ?_)
  obtain ⟨c79, hX, hj⟩ := esc_e h3; subst hj; replace h2 := hX.trans (sel_r h2)
  obtain rfl := nxt_e h2
  refine w_ret (hret _ _ (hk [(7, ⟨81, 2, true, true, w23_1, y23_2.map GLine.av⟩)]) (.tmp rfl .nil) (HK.le ⟨rfl, trivial⟩) ?_)
  exact ⟨y24_1, (), rfl, rfl, rfl⟩
  rintro _ _ h2
  refine tc tbk 4 (.mk ?_)
  obtain rfl := nxt_e h2
  refine w_ret (hret _ _ (hk [(7, ⟨81, 2, true, true, w23_1, y23_2.map GLine.av⟩)]) (.tmp rfl .nil) (HK.le ⟨rfl, trivial⟩) ?_)
  exact ⟨(-1), (), rfl, rfl, rfl⟩
  rintro y _ ⟨y26_1, _, rfl, hc, rfl⟩
  subst hc
  refine tr tbk 6 (.mk ?_)
  refine nb tbk h1 fun x80 h1 => ?_
  refine tr tbk 1 (.mk ?_)
  cases x80
  replace h1 := cf h1
  refine tc tbk 6 (.mk ?_)
  refine ni tbk h1 fun x81 h1 => ?_
  refine tr tbk 2 (.mk ?_)
  refine jn h1 [4] [] (fun (a : Int × (List GLine)) (k : Unit) => [(0, .sl 7 w23_1 0 a.2.length), (5, int a.1)]) (fun a k => [(7, ⟨81, 2, true, true, w23_1, a.2.map GLine.av⟩)]) ⟨fun j82 h2 => ?_, ?_⟩
  refine tc tbk 1 (.mk ?_)
  refine lp (fun n (a : Int × Int × (List GLine)) => d_voucher_Plain_L7 n a.1 a.2.1 a.2.2) ((y26_1 : Int), (x81 : Int), (y23_2 : List GLine)) () h2 [1, 4] [] (fun (a : Int × Int × (List GLine)) (k : Unit) => [(0, .sl 7 w23_1 0 a.2.2.length), (5, int a.1), (6, int a.2.1)]) (fun a k => [(7, ⟨81, 2, true, true, w23_1, a.2.2.map GLine.av⟩)]) (fun _ => rfl) ⟨leA, ?_⟩
  rintro n ⟨y27_1, y27_2, y27_3⟩ _ hm h2
  replace h2 : d_voucher_Plain_L7 (n + 1) y27_1 y27_2 y27_3 = some _ := h2
  rw [d_voucher_Plain_L7] at h2
  refine tc tbk 5 (.mk ?_)
  refine sY (yv_len_sl rfl Tryz.underlying82 rfl (.sl rfl rfl)) ?_
  refine nb tbk h2 fun x83 h2 => ?_
  refine tr tbk 1 (.mk ?_)
  cases x83
  replace h2 := cf h2
  refine tc tbk 2 (.mk ?_)
  exact lf h2 () leA
  replace h2 := ct h2
  refine tc tbk 3 (.mk ?_)
  refine jn h2 [1, 4, 6] [] (fun (a : Int × (List GLine)) (k : Unit) => [(0, .sl 7 w23_1 0 a.2.length), (5, int a.1)]) (fun a k => [(7, ⟨81, 2, true, true, w23_1, a.2.map GLine.av⟩)]) ⟨fun j84 h3 => ?_, ?_⟩
  refine tc tbk 5 (.mk ?_)
  obtain ⟨x85, e85, h3⟩ := bind_e h3
  refine sY (yv_ixO rfl Tryz.underlying82 sh81 rfl rfl rfl rfl rfl (Eq.symm rfl) (List.length_map _) e85) ?_
  refine sY (yv_load rfl sh81 rfl (.pt rfl rfl (ix_get e85)) rfl) ?_
  refine sA 8 z81 fun v86 => ?_
  refine sS ⟨81, 2, true, true, v86, [[int x85.Account, int x85.Amount]]⟩ sh81 ?_
  refine tr tbk 5 (.mk ?_)
  obtain ⟨x87, e87, h3⟩ := bind_e h3
  refine sC cal159 (d_voucher_Plain_3_c e87) ?_
  refine nb tbk h3 fun x88 h3 => ?_
  refine tr tbk 1 (.mk ?_)
  cases x88
  replace h3 := cf h3
  refine tc tbk 3 (.mk ?_)
  exact lf h3 () leA
  replace h3 := ct h3
  refine tc tbk 6 (.mk ?_)
  obtain ⟨x89, e89, h3⟩ := bind_e h3
  refine sY (yv_ixO rfl Tryz.underlying82 sh81 rfl rfl rfl rfl rfl (Eq.symm rfl) (List.length_map _) e89) ?_
  obtain ⟨x90, e90, h3⟩ := bnd_e h3
  have fx90 := ix_set e89 e90; have lx90 := len_setV e90 (rfl : y27_3.length = y27_3.length)
  refine rsstore rfl rfl (yl_ob (ob' := (⟨81, 2, true, true, w23_1, x90.map GLine.av⟩ : AObj)) (yl_store rfl sh81 rfl rfl rfl rfl rfl (ix_get e89) rfl rfl rfl) (ob_eq (map_setV e90))) ?_
  refine tr tbk 3 (.mk ?_)
  refine ni tbk h3 fun x91 h3 => ?_
  refine tr tbk 3 (.mk ?_)
  exact lf h3 () (leH_kn ⟨⟨_, rfl, (cv_slen (Eq.symm lx90))⟩, ⟨_, rfl, (.refl _)⟩, ⟨_, rfl, (.refl _)⟩, ⟨_, rfl, (.refl _)⟩, ⟨_, rfl, (.refl _)⟩, trivial⟩ ⟨⟨_, rfl, (.refl _)⟩, trivial⟩)
  rintro ⟨y28_1, y28_2⟩ _ h2
  replace h2 := p2_e h2
  refine tc tbk 2 (.mk ?_)
  refine ni tbk h2 fun x92 h2 => ?_
  refine tr tbk 2 (.mk ?_)
  exact bk (y28_1, x92, y28_2) () h2 leA
  rintro ⟨y29_1, y29_2⟩ _ h1
  replace h1 := p2_e h1
  refine tc tbk 4 (.mk ?_)
  obtain ⟨p93, h1⟩ := asrt_e h1
  refine sY (yv_slO (len := y29_2.length) (i := y29_1.toNat) (j := y29_2.length) rfl Tryz.underlying82 sh81 rfl rfl rfl rfl (.yes rfl (by first | omega | (dsimp only; omega) | (dsimp only at *; omega))) .no (by first | omega | (dsimp only; omega) | (dsimp only at *; omega)) (Nat.le_refl _) (.inl (by first | omega | (dsimp only; omega) | (dsimp only at *; omega)))) ?_
  obtain ⟨x94, e94, h1⟩ := bnd_e h1
  refine rsstore rfl rfl (yl_ob (ob' := (⟨81, 2, true, true, w23_1, x94.map GLine.av⟩ : AObj)) (yl_clear rfl Tryz.underlying82 bz81 rfl rfl rfl rfl rfl rfl e94) rfl) ?_
  refine tr tbk 5 (.mk ?_)
  obtain ⟨p95, h1⟩ := asrt_e h1
  refine sY (yv_slO (len := y29_2.length) (i := 0) (j := y29_1.toNat) rfl Tryz.underlying82 sh81 rfl rfl rfl rfl .no (.yes rfl (by first | omega | (dsimp only; omega) | (dsimp only at *; omega))) (Nat.zero_le _) (by first | omega | (dsimp only; omega) | (dsimp only at *; omega)) (.inr rfl)) ?_
  refine tr tbk 2 (.mk ?_)
  obtain rfl := nxt_e h1
  refine w_ret (hret _ _ (hk [(7, ⟨81, 2, true, true, w23_1, x94.map GLine.av⟩)]) (.tmp rfl .nil) (HK.le ⟨rfl, trivial⟩) ?_)
  exact ⟨((0 + 0), (y29_1.toNat - 0), x94), (), rfl, rfl, rfl⟩
  replace h1 := ct h1
  refine tc tbk 6 (.mk ?_)
  obtain rfl := nxt_e h1
  refine w_ret (hret _ _ (hk [(7, ⟨81, 2, true, true, w23_1, y23_2.map GLine.av⟩)]) (.tmp rfl .nil) (HK.le ⟨rfl, trivial⟩) ?_)
  exact ⟨(0, y23_2.length, y23_2), (), rfl, rfl, rfl⟩
  rintro y _ ⟨⟨y30_1, y30_2, y30_3⟩, _, rfl, hc, rfl⟩
  replace h0 := p2_e h0
  replace h0 := p2_e h0
  subst hc
  refine tr tbk 3 (.mk ?_)
  obtain ⟨p96, h0⟩ := asrt_e h0
  obtain rfl := nxt_e h0
  refine wR hret (rT (rT .nil)) ?_
  exact CvL.tup (.cons (cv_win (l := y30_3) rfl rfl rfl rfl (CvLL.refl _) (by first | omega | (simp only [List.length_set]; omega)) rfl) (.cons (.refl _) .nil))
  replace h0 := ct h0
  refine tc tbk 6 (.mk ?_)
  obtain rfl := nxt_e h0
  refine wR hret (rT (rT .nil)) ?_
  exact CvL.tup (.cons (.nil _) (.cons (.refl _) .nil))
def d_voucher_sum_L0 (a1 : List GLine) : Nat → Int → (List Int) → Option ((List Int))
  | 0, _, _ => none
  | n + 1, y0_2, y0_3 =>
    bnd (decide (y0_2 < (a1.length : Int))) fun x4 =>
    cond x4 ((ix a1 y0_2).bind fun x5 =>
    bnd (y0_3 ++ ([x5.Amount] : List Int)) fun x7 =>
    asrt (x7.length ≤ 68719476736) <|
    bnd (w64 (y0_2 + 1)) fun x10 =>
    d_voucher_sum_L0 a1 n (x10 : Int) (x7 : List Int)) (some (y0_3 : List Int))
def d_voucher_sum (n : Nat) (a1 : List GLine) : Option (Int × Int) :=
(show Option ((List Int)) from
d_voucher_sum_L0 a1 n (0 : Int) (([] : List Int) : List Int)).bind <| fun y1_2 =>
(d_money_Sum n y1_2).bind fun x11 =>
some ((x11.1 : Int), (x11.2 : Int))
theorem d_voucher_sum_c {n : Nat} {a1 : List GLine} {r : Int × Int} (h0 : d_voucher_sum n a1 = some r) : PP Tryz.prog 196 [lst 2 GLine.av a1] (fun y => y = .tup [int r.1, int r.2]) := by
  unfold d_voucher_sum at h0
  refine pp_of_pc (R0 := fun y H => Cv (frzH H) y (.tup [int r.1, int r.2])) ?_ (fun y H hc => ⟨_, rfl, .tup (pvl2 (pvI (r.1)) (pvI (r.2))), hc⟩)
  refine pcw (c := _) Tryz.func196 rfl rfl ?_; intro Q hret hnorm
  refine tc tbk 13 (.mk ?_)
  refine sY (yv_len_sl rfl Tryz.underlying82 rfl (lst_len _)) ?_
  refine tr tbk 2 (.mk ?_)
  refine jn h0 [2, 3] [] (fun (a : (List Int)) (k : Nat) => [(4, .sl 3 k 0 a.length)]) (fun a k => [(3, ⟨3, 1, true, true, k, a.map fI⟩)]) ⟨fun j2 h1 => ?_, ?_⟩
  refine tc tbk 1 (.mk ?_)
  refine c_nilobj 4 3 3 1 rfl rfl ?_; intro v3
  refine lp (fun n (a : Int × (List Int)) => d_voucher_sum_L0 a1 n a.1 a.2) ((0 : Int), (([] : List Int) : List Int)) v3 h1 [2, 3, 7, 8] [] (fun (a : Int × (List Int)) (k : Nat) => [(4, .sl 3 k 0 a.2.length), (9, int a.1)]) (fun a k => [(3, ⟨3, 1, true, true, k, a.2.map fI⟩)]) (fun _ => rfl) ⟨leA, ?_⟩
  rintro n ⟨y0_2, y0_3⟩ w0_1 hm h1
  replace h1 : d_voucher_sum_L0 a1 (n + 1) y0_2 y0_3 = some _ := h1
  rw [d_voucher_sum_L0] at h1
  refine tc tbk 2 (.mk ?_)
  refine nb tbk h1 fun x4 h1 => ?_
  refine tr tbk 2 (.mk ?_)
  cases x4
  replace h1 := cf h1
  refine tc tbk 2 (.mk ?_)
  exact lf h1 w0_1 leA
  replace h1 := ct h1
  refine tc tbk 6 (.mk ?_)
  obtain ⟨x5, e5, h1⟩ := bind_e h1
  refine sY (yv_ixT rfl Tryz.underlying82 sh81 rfl rfl e5) ?_
  refine tr tbk 1 (.mk ?_)
  refine sA 1 z81 fun v6 => ?_
  refine sS ⟨81, 2, true, true, v6, [[int x5.Account, int x5.Amount]]⟩ sh81 ?_
  refine tr tbk 5 (.mk ?_)
  refine sY (yv_to (y := lst 1 fI ([x5.Amount] : List Int)) (yv_buildSlice (ps := [(0, _)]) (rows := [[int x5.Amount]]) rfl Tryz.underlying23 bz3 (.cons rfl .nil) (by kernel_rfl) rfl rfl rfl) rfl) ?_
  obtain ⟨x7, e7, h1⟩ := bnd_e h1
  obtain ⟨p8, h1⟩ := asrt_e h1
  refine rse rfl rfl rfl (yl_appT (g := fI) (l := y0_3) (m := ([x5.Amount] : List Int)) .any rfl Tryz.underlying23 bz3 by3 rfl rfl rfl rfl rfl rfl rfl rfl rfl rfl (Eq.symm rfl) (.refl _) (fun _ => rfl) e7 p8) ?_; rintro _ _ ⟨v9, -, rfl, rfl⟩
  refine tr tbk 4 (.mk ?_)
  refine ni tbk h1 fun x10 h1 => ?_
  refine tr tbk 2 (.mk ?_)
  exact bk (x10, x7) v9 h1 leA
  rintro y1_2 w1_1 h0
  refine tc tbk 3 (.mk ?_)
  obtain ⟨x11, e11, h0⟩ := bind_e h0
  refine sY (yv_callT (v := .tup [int x11.1, int x11.2]) rfl rfl (.cons rfl .nil) cal100 (.cons (cv_lst rfl rfl rfl rfl rfl (Eq.symm rfl)) .nil) (d_money_Sum_c e11) rfl) ?_
  refine tr tbk 5 (.mk ?_)
  obtain rfl := nxt_e h0
  refine wR hret (rT (rT .nil)) ?_
  exact .refl _
def d_voucher_Check_1 (a1 : GLine) : Option (Bool) :=
(show Option (Bool) from
(d_voucher_is a1.Account).bind fun x4 =>
bnd (!x4) fun x5 =>
cond x5 (some (true : Bool)) (bnd (decide (a1.Amount = 0)) fun x6 =>
cond x6 (some (true : Bool)) ((d_voucher_in a1.Amount).bind fun x7 =>
bnd (!x7) fun x8 =>
some (x8 : Bool)))).bind <| fun y0_1 =>
some ((y0_1 : Bool))
theorem d_voucher_Check_1_c {a1 : GLine} {r : Bool} (h0 : d_voucher_Check_1 a1 = some r) : PP Tryz.prog 195 [.agg (GLine.av a1)] (fun y => y = boo r) := by
  unfold d_voucher_Check_1 at h0
  refine pp_of_pc (R0 := fun y H => Cv (frzH H) y (boo r)) ?_ (fun y H hc => ⟨_, rfl, pvB r, hc⟩)
  refine pcw (c := _) Tryz.func195 rfl rfl ?_; intro Q hret hnorm
  refine tc tbk 2 (.mk ?_)
  refine sB 1 fun v2 => ?_
  refine tr tbk 3 (.mk ?_)
  refine jn h0 [] [] (fun (a : Bool) (k : Unit) => [(2, boo a)]) (fun a k => []) ⟨fun j3 h1 => ?_, ?_⟩
  refine tc tbk 3 (.mk ?_)
  obtain ⟨x4, e4, h1⟩ := bind_e h1
  refine sC cal153 (d_voucher_is_c e4) ?_
  refine nb tbk h1 fun x5 h1 => ?_
  refine tr tbk 1 (.mk ?_)
  cases x5
  replace h1 := cf h1
  refine tr tbk 2 (.mk ?_)
  refine nb tbk h1 fun x6 h1 => ?_
  refine tr tbk 2 (.mk ?_)
  cases x6
  replace h1 := cf h1
  refine tr tbk 2 (.mk ?_)
  obtain ⟨x7, e7, h1⟩ := bind_e h1
  refine sC cal154 (d_voucher_in_c e7) ?_
  refine nb tbk h1 fun x8 h1 => ?_
  refine tr tbk 3 (.mk ?_)
  exact lf h1 () leA
  replace h1 := ct h1
  refine tr tbk 7 (.mk ?_)
  exact lf h1 () leA
  replace h1 := ct h1
  refine tr tbk 12 (.mk ?_)
  exact lf h1 () leA
  rintro y0_1 _ h0
  obtain rfl := nxt_e h0
  refine wR hret (rT .nil) ?_
  exact .refl _
def d_voucher_Check_L0 (a1 : List GLine) : Nat → Int → Option ((Unit) ⊕ ((Int)))
  | 0, _ => none
  | n + 1, y1_1 =>
    bnd (decide (y1_1 < (a1.length : Int))) fun x10 =>
    cond x10 ((ix a1 y1_1).bind fun x11 =>
    (d_voucher_Check_1 x11).bind fun x12 =>
    cond x12 (esc (some (y1_1 : Int))) (bnd (w64 (y1_1 + 1)) fun x13 =>
    d_voucher_Check_L0 a1 n (x13 : Int))) (brk ())
def d_voucher_Check (n : Nat) (a1 : List GLine) : Option (Bool) :=
(show Option (Bool) from
bnd (decide ((a1.length : Int) < 1)) fun x3 =>
cond x3 (some (true : Bool)) (bnd (decide ((a1.length : Int) > 12)) fun x4 =>
some (x4 : Bool))).bind <| fun y0_1 =>
cond y0_1 (some ((false : Bool))) ((d_voucher_sum n a1).bind fun x5 =>
(show Option (Bool) from
(show Option ((Bool)) from
(show Option ((Int)) from
(show Option ((Unit) ⊕ ((Int))) from
d_voucher_Check_L0 a1 n (0 : Int)).bind <| sel <| fun _ =>
some ((-1) : Int)).bind <| fun y3_1 =>
bnd (decide (y3_1 ≥ 0)) fun x15 =>
some (x15 : Bool)).bind <| fun y4_1 =>
bnd (!y4_1) fun x16 =>
cond x16 (bnd (decide (x5.1 = 0)) fun x17 =>
cond x17 (bnd (decide (x5.2 = 0)) fun x18 =>
some (x18 : Bool)) (some (false : Bool))) (some (false : Bool))).bind <| fun y5_1 =>
some ((y5_1 : Bool)))
theorem d_voucher_Check_c {n : Nat} {a1 : List GLine} {r : Bool} (h0 : d_voucher_Check n a1 = some r) : PP Tryz.prog 162 [lst 2 GLine.av a1] (fun y => y = boo r) := by
  unfold d_voucher_Check at h0
  refine pp_of_pc (R0 := fun y H => Cv (frzH H) y (boo r)) ?_ (fun y H hc => ⟨_, rfl, pvB r, hc⟩)
  refine pcw (c := _) Tryz.func162 rfl rfl ?_; intro Q hret hnorm
  refine tc tbk 6 (.mk ?_)
  refine jn h0 [0, 2] [] (fun (a : Bool) (k : Unit) => [(13, boo a)]) (fun a k => []) ⟨fun j2 h1 => ?_, ?_⟩
  refine tc tbk 2 (.mk ?_)
  refine sY (yv_len_sl rfl Tryz.underlying82 rfl (lst_len _)) ?_
  refine nb tbk h1 fun x3 h1 => ?_
  refine tr tbk 1 (.mk ?_)
  cases x3
  replace h1 := cf h1
  refine tr tbk 1 (.mk ?_)
  refine sY (yv_len_sl rfl Tryz.underlying82 rfl (lst_len _)) ?_
  refine nb tbk h1 fun x4 h1 => ?_
  refine tr tbk 2 (.mk ?_)
  exact lf h1 () leA
  replace h1 := ct h1
  refine tr tbk 5 (.mk ?_)
  exact lf h1 () leA
  rintro y0_1 _ h0
  cases y0_1
  replace h0 := cf h0
  refine tc tbk 9 (.mk ?_)
  obtain ⟨x5, e5, h0⟩ := bind_e h0
  refine sC cal196 (d_voucher_sum_c e5) ?_
  refine tr tbk 7 (.mk ?_)
  refine jn h0 [] [] (fun (a : Bool) (k : Unit) => [(2, boo a)]) (fun a k => []) ⟨fun j6 h1 => ?_, ?_⟩
  refine tc tbk 3 (.mk ?_)
  obtain ⟨j7, h2, h1⟩ := bind_e h1
  refine rse (Out := fun y H' => (∃ (a : Bool) (k : Unit), a = j7 ∧ y = boo a ∧ H' = hk [])) rfl rfl rfl (yl_call rfl rfl (.cons rfl (.cons rfl .nil)) cal151 ?_) ?_
  refine pcw (c := _) Tryz.func151 rfl rfl ?_; intro Q hret hnorm
  refine tc tbk 8 (.mk ?_)
  obtain ⟨j8, h3, h2⟩ := bind_e h2
  refine rse (Out := fun y H' => (∃ (a : Int) (k : Unit), a = j8 ∧ y = int a ∧ H' = hk [])) rfl rfl rfl (yl_call rfl rfl (.cons rfl (.cons rfl .nil)) cal191 ?_) ?_
  refine pcw (c := _) Tryz.func191 rfl rfl ?_; intro Q hret hnorm
  refine tc tbk 8 (.mk ?_)
  refine sY (yv_len_sl rfl Tryz.underlying82 rfl (lst_len _)) ?_
  refine tr tbk 2 (.mk ?_)
  refine jnE h3 [4] [] (fun (a : Unit) (k : Unit) => []) (fun a k => []) ⟨fun j9 h4 h3 => ?_, ?_⟩
  refine tc tbk 1 (.mk ?_)
  refine lp (fun n (a : Int) => d_voucher_Check_L0 a1 n a) (0 : Int) () h4 [0, 1, 4, 7] [] (fun (a : Int) (k : Unit) => [(8, int a)]) (fun a k => []) (fun _ => rfl) ⟨leA, ?_⟩
  rintro n y1_1 _ hm h4
  replace h4 : d_voucher_Check_L0 a1 (n + 1) y1_1 = some _ := h4
  rw [d_voucher_Check_L0] at h4
  refine tc tbk 2 (.mk ?_)
  refine nb tbk h4 fun x10 h4 => ?_
  refine tr tbk 2 (.mk ?_)
  cases x10
  replace h4 := cf h4
  refine tc tbk 2 (.mk ?_)
  exact lfE h4 () leA
  replace h4 := ct h4
  refine tc tbk 14 (.mk ?_)
  obtain ⟨x11, e11, h4⟩ := bind_e h4
  refine sY (yv_ixT rfl Tryz.underlying82 sh81 rfl rfl e11) ?_
  refine tr tbk 1 (.mk ?_)
  obtain ⟨x12, e12, h4⟩ := bind_e h4
  refine sC cal195 (d_voucher_Check_1_c e12) ?_
  refine tr tbk 1 (.mk ?_)
  cases x12
  replace h4 := cf h4
  refine tc tbk 4 (.mk ?_)
  refine ni tbk h4 fun x13 h4 => ?_
  refine tr tbk 2 (.mk ?_)
  exact bk x13 () h4 leA
  replace h4 := ct h4
  refine tc tbk 6 (.mk ?_)
  obtain ⟨c14, hX, hj⟩ := esc_e h4; subst hj; replace h3 := hX.trans (sel_r h3)
  obtain rfl := nxt_e h3
  refine w_ret (hret _ _ (hk []) (.tmp rfl .nil) (fun _ _ h => nomatch h) ?_)
  exact ⟨y1_1, (), rfl, rfl, rfl⟩
  rintro _ _ h3
  refine tc tbk 4 (.mk ?_)
  obtain rfl := nxt_e h3
  refine w_ret (hret _ _ (hk []) (.tmp rfl .nil) (fun _ _ h => nomatch h) ?_)
  exact ⟨(-1), (), rfl, rfl, rfl⟩
  rintro y _ ⟨y3_1, _, rfl, hc, rfl⟩
  subst hc
  refine nb tbk h2 fun x15 h2 => ?_
  refine tr tbk 2 (.mk ?_)
  obtain rfl := nxt_e h2
  refine w_ret (hret _ _ (hk []) (.tmp rfl .nil) (fun _ _ h => nomatch h) ?_)
  exact ⟨x15, (), rfl, rfl, rfl⟩
  rintro y _ ⟨y4_1, _, rfl, hc, rfl⟩
  subst hc
  refine nb tbk h1 fun x16 h1 => ?_
  refine tr tbk 1 (.mk ?_)
  cases x16
  replace h1 := cf h1
  refine tr tbk 9 (.mk ?_)
  exact lf h1 () leA
  replace h1 := ct h1
  refine tr tbk 1 (.mk ?_)
  refine nb tbk h1 fun x17 h1 => ?_
  refine tr tbk 2 (.mk ?_)
  cases x17
  replace h1 := cf h1
  refine tr tbk 5 (.mk ?_)
  exact lf h1 () leA
  replace h1 := ct h1
  refine tr tbk 1 (.mk ?_)
  refine nb tbk h1 fun x18 h1 => ?_
  refine tr tbk 3 (.mk ?_)
  exact lf h1 () leA
  rintro y5_1 _ h0
  obtain rfl := nxt_e h0
  refine wR hret (rT .nil) ?_
  exact .refl _
  replace h0 := ct h0
  refine tc tbk 5 (.mk ?_)
  obtain rfl := nxt_e h0
  refine wR hret (rT .nil) ?_
  exact .refl _
def d_gl_Post_L0 (x9 : (List GLine) × Int) : Nat → Int → (List Int) → Option (((List Int)) ⊕ ((Int × (List Int))))
  | 0, _, _ => none
  | n + 1, y1_1, y1_2 =>
    bnd (decide (y1_1 < (x9.1.length : Int))) fun x16 =>
    cond x16 ((ix x9.1 y1_1).bind fun x17 =>
    (ix y1_2 x17.Account).bind fun x19 =>
    (d_money_Add x19 x17.Amount).bind fun x20 =>
    bnd (y1_2.set (Int.toNat x17.Account) (x20.1 : Int)) fun x21 =>
    bnd (decide (x20.2 ≠ 0)) fun x22 =>
    cond x22 (esc (some ((x20.2 : Int), (x21 : List Int)))) (bnd (w64 (y1_1 + 1)) fun x23 =>
    d_gl_Post_L0 x9 n (x23 : Int) (x21 : List Int))) (brk (y1_2 : List Int))
def d_gl_Post (n : Nat) (a1 : List Int) (a2 : List GLine) : Option ((List Int) × Int) :=
bnd (decide ((a1.length : Int) ≠ 17)) fun x4 =>
cond x4 (some (([] : List Int), (1 : Int))) ((show Option (((List Int)) ⊕ (Int)) from
asrt (a1.length ≤ 68719476736) <|
(show Option ((Int × (List Int))) from
(d_voucher_Plain n a2).bind fun x9 =>
(show Option (Bool) from
bnd (decide (x9.2 ≠ 0)) fun x11 =>
cond x11 (some (true : Bool)) (bnd (decide ((x9.1.length : Int) > 0)) fun x12 =>
cond x12 ((d_voucher_Check n x9.1).bind fun x13 =>
bnd (!x13) fun x14 =>
some (x14 : Bool)) (some (false : Bool)))).bind <| fun y0_1 =>
cond y0_1 (some ((10 : Int), (a1 : List Int))) ((show Option (((List Int)) ⊕ ((Int × (List Int)))) from
d_gl_Post_L0 x9 n (0 : Int) (a1 : List Int)).bind <| sel <| fun y2_1 =>
some ((0 : Int), (y2_1 : List Int)))).bind <| p2 fun (y3_1 : Int) (y3_2 : List Int) =>
bnd (decide (y3_1 ≠ 0)) fun x25 =>
cond x25 (asrt (a1.length ≤ 68719476736) <|
some (.inr (y3_1 : Int))) (asrt (y3_2.length = a1.length) <|
some (.inl (y3_2 : List Int)))).bind <| selr (fun y4_2 =>
some ((y4_2 : List Int), (0 : Int))) <| fun y5_2 =>
some ((a1 : List Int), (y5_2 : Int)))
theorem d_gl_Post_c {n : Nat} {a1 : List Int} {a2 : List GLine} {r : (List Int) × Int} (h0 : d_gl_Post n a1 a2 = some r) : PP Tryz.prog 109 [lst 1 fI a1, lst 2 GLine.av a2] (fun y => y = .tup [lst 1 fI r.1, int r.2]) := by
  unfold d_gl_Post at h0
  refine pp_of_pc (R0 := fun y H => Cv (frzH H) y (.tup [lst 1 fI r.1, int r.2])) ?_ (fun y H hc => ⟨_, rfl, .tup (pvl2 ((pvLs pvcI) (r.1)) (pvI (r.2))), hc⟩)
  refine pcw (c := _) Tryz.func109 rfl rfl ?_; intro Q hret hnorm
  refine tc tbk 2 (.mk ?_)
  refine sB 1 fun v3 => ?_
  refine tr tbk 7 (.mk ?_)
  refine sY (yv_len_sl rfl Tryz.underlying23 rfl (lst_len _)) ?_
  refine nb tbk h0 fun x4 h0 => ?_
  refine tr tbk 1 (.mk ?_)
  cases x4
  replace h0 := cf h0
  refine tc tbk 6 (.mk ?_)
  obtain ⟨j5, h1, h0⟩ := bind_e h0
  refine rse (Out := fun y H' => (∃ (a : (List Int)) (k : Nat), (.inl a) = j5 ∧ Cv H' y (.tup [.sl 2 k 0 a.length, int 0]) ∧ H' = hk [(1, ⟨82, 1, true, true, v3, [[lst 2 GLine.av a2]]⟩), (2, ⟨3, 1, true, true, k, a.map fI⟩)]) ∨ (∃ (a : Int) (k : Nat), (.inr a) = j5 ∧ Cv H' y (.tup [.sl 4 k 0 a1.length, int a]) ∧ H' = hk [(1, ⟨82, 1, true, true, v3, [[lst 2 GLine.av a2]]⟩), (4, ⟨3, 1, true, true, k, a1.map fI⟩)])) rfl rfl rfl (yl_call rfl rfl (.cons rfl (.cons rfl .nil)) cal160 ?_) ?_
  refine pcw (c := _) Tryz.func160 rfl rfl ?_; intro Q hret hnorm
  refine tc tbk 8 (.mk ?_)
  obtain ⟨p6, h1⟩ := asrt_e h1
  refine rse rfl rfl rfl (yl_call rfl rfl (.cons rfl .nil) cal120 (pc_cv (clone120_c (id := 2) (l := a1) rfl p6) (.cons (.refl _) .nil))) ?_; rintro _ _ ⟨v7, rfl, rfl⟩
  refine tr tbk 7 (.mk ?_)
  obtain ⟨j8, h2, h1⟩ := bind_e h1
  refine rse (Out := fun y H' => (∃ (a : Int × (List Int)) (k : Unit), a = j8 ∧ y = int a.1 ∧ H' = hk [(1, ⟨82, 1, true, true, v3, [[lst 2 GLine.av a2]]⟩), (2, ⟨3, 1, true, true, v7, a.2.map fI⟩)])) rfl rfl rfl (yl_call rfl rfl (.cons rfl .nil) cal161 ?_) ?_
  refine pcw (c := _) Tryz.func161 rfl rfl ?_; intro Q hret hnorm
  refine tc tbk 7 (.mk ?_)
  obtain ⟨x9, e9, h2⟩ := bind_e h2
  refine sC cal108 (d_voucher_Plain_c e9) ?_
  refine tr tbk 8 (.mk ?_)
  refine jn h2 [0, 3, 4] [1, 2] (fun (a : Bool) (k : Unit) => [(24, boo a)]) (fun a k => []) ⟨fun j10 h3 => ?_, ?_⟩
  refine tc tbk 2 (.mk ?_)
  refine nb tbk h3 fun x11 h3 => ?_
  refine tr tbk 1 (.mk ?_)
  cases x11
  replace h3 := cf h3
  refine tr tbk 1 (.mk ?_)
  refine sY (yv_len_sl rfl Tryz.underlying82 rfl (lst_len _)) ?_
  refine nb tbk h3 fun x12 h3 => ?_
  refine tr tbk 1 (.mk ?_)
  cases x12
  replace h3 := cf h3
  refine tr tbk 6 (.mk ?_)
  exact lf h3 () leA
  replace h3 := ct h3
  refine tr tbk 1 (.mk ?_)
  obtain ⟨x13, e13, h3⟩ := bind_e h3
  refine sC cal162 (d_voucher_Check_c e13) ?_
  refine nb tbk h3 fun x14 h3 => ?_
  refine tr tbk 3 (.mk ?_)
  exact lf h3 () leA
  replace h3 := ct h3
  refine tr tbk 10 (.mk ?_)
  exact lf h3 () leA
  rintro y0_1 _ h2
  cases y0_1
  replace h2 := cf h2
  refine tc tbk 6 (.mk ?_)
  refine sY (yv_len_sl rfl Tryz.underlying82 rfl (lst_len _)) ?_
  refine tr tbk 2 (.mk ?_)
  refine jnE h2 [3] [1] (fun (a : (List Int)) (k : Unit) => []) (fun a k => [(2, ⟨3, 1, true, true, v7, a.map fI⟩)]) ⟨fun j15 h3 h2 => ?_, ?_⟩
  refine tc tbk 1 (.mk ?_)
  refine lp (fun n (a : Int × (List Int)) => d_gl_Post_L0 x9 n a.1 a.2) ((0 : Int), (a1 : List Int)) () h3 [3, 25, 26] [1] (fun (a : Int × (List Int)) (k : Unit) => [(0, .sl 2 v7 0 a.2.length), (27, int a.1)]) (fun a k => [(2, ⟨3, 1, true, true, v7, a.2.map fI⟩)]) (fun _ => rfl) ⟨leA, ?_⟩
  rintro n ⟨y1_1, y1_2⟩ _ hm h3
  replace h3 : d_gl_Post_L0 x9 (n + 1) y1_1 y1_2 = some _ := h3
  rw [d_gl_Post_L0] at h3
  refine tc tbk 2 (.mk ?_)
  refine nb tbk h3 fun x16 h3 => ?_
  refine tr tbk 2 (.mk ?_)
  cases x16
  replace h3 := cf h3
  refine tc tbk 2 (.mk ?_)
  exact lfE h3 () leA
  replace h3 := ct h3
  refine tc tbk 6 (.mk ?_)
  obtain ⟨x17, e17, h3⟩ := bind_e h3
  refine sY (yv_ixT rfl Tryz.underlying82 sh81 rfl rfl e17) ?_
  refine tr tbk 1 (.mk ?_)
  refine sA 3 z81 fun v18 => ?_
  refine sS ⟨81, 2, true, true, v18, [[int x17.Account, int x17.Amount]]⟩ sh81 ?_
  refine tr tbk 2 (.mk ?_)
  refine c_drawE [0, 0, 2, 0, 0, 16, 56, 120, 0, 256, 1016, 2040, 4088, 4088, 8191, 24575, 65535] (rl [(1, [3]), (2, [3]), (4, [3]), (5, [3]), (6, [2]), (7, [2]), (8, [3]), (9, [3]), (14, [2])] []) (rl [(15, [])] [2, 3]) (rl [(15, false)] true) [0, 1, 2, 3, 4, 5, 6, 7, 8, 9, 10, 11, 12, 13, 14, 15, 16] mixed (by kernel_rfl) ?_; intro K hK
  refine eM ?_
  refine eF fo81_0 ?_
  refine eL sh3 ?_
  refine eM ?_
  refine eF fo81_0 ?_
  refine eL sh3 ?_
  obtain ⟨x19, e19, h3⟩ := bind_e h3
  refine de_pure rfl rfl rfl rfl (fun H hH => yv_ixO rfl Tryz.underlying23 sh3 rfl rfl ((hH _ (by decide)).trans rfl) rfl rfl (Eq.symm rfl) (List.length_map _) e19) ?_
  refine eL sh3 (hr := ix_get e19) ?_
  refine eF fo81_1 ?_
  refine eL sh3 ?_
  obtain ⟨x20, e20, h3⟩ := bind_e h3
  refine eP (fun H hH => yv_callP rfl rfl (.cons rfl (.cons rfl .nil)) cal136 (CvL.refl _) (d_money_Add_c e20)) ?_
  refine eM ?_
  iterate 2 refine eX ?_
  refine de_pure rfl rfl rfl rfl (fun H hH => yv_ixO rfl Tryz.underlying23 sh3 rfl rfl ((hH _ (by decide)).trans rfl) rfl rfl (Eq.symm rfl) (List.length_map _) e19) ?_
  obtain ⟨x21, e21, h3⟩ := bnd_e h3
  have fx21 := ix_set e19 e21; have lx21 := len_setV e21 (rfl : y1_2.length = y1_2.length)
  refine de_eff0 rfl rfl rfl rfl (Yield.weak (yl_ob (ob' := (⟨3, 1, true, true, v7, x21.map fI⟩ : AObj)) (yl_store rfl sh3 rfl rfl rfl rfl rfl (ix_get e19) rfl rfl rfl) (ob_eq (map_setV e21))) (fun _ h => h) (fun _ _ => trivial)) (by rintro _ _ ⟨rfl, rfl⟩; exact trivial) ?_; rintro _ _ ⟨rfl, rfl⟩
  refine eA ?_
  refine de_nil (hK _ ?_)
  refine tc tbk 3 (.mk ?_)
  refine nb tbk h3 fun x22 h3 => ?_
  refine tr tbk 1 (.mk ?_)
  cases x22
  replace h3 := cf h3
  refine tc tbk 4 (.mk ?_)
  refine ni tbk h3 fun x23 h3 => ?_
  refine tr tbk 2 (.mk ?_)
  exact bk (x23, x21) () h3 (leH_kn ⟨⟨_, rfl, (cv_slen (Eq.symm lx21))⟩, ⟨_, rfl, (.refl _)⟩, ⟨_, rfl, (.refl _)⟩, ⟨_, rfl, (.refl _)⟩, ⟨_, rfl, (.refl _)⟩, trivial⟩ ⟨⟨_, rfl, (.refl _)⟩, ⟨_, rfl, (.refl _)⟩, trivial⟩)
  replace h3 := ct h3
  refine tc tbk 6 (.mk ?_)
  obtain ⟨c24, hX, hj⟩ := esc_e h3; subst hj; replace h2 := hX.trans (sel_r h2)
  obtain rfl := nxt_e h2
  refine w_ret (hret _ _ (hk [(1, ⟨82, 1, true, true, v3, [[lst 2 GLine.av a2]]⟩), (2, ⟨3, 1, true, true, v7, x21.map fI⟩)]) (.tmp rfl .nil) (HK.le ⟨rfl, rfl, trivial⟩) ?_)
  exact ⟨(x20.2, x21), (), rfl, rfl, rfl⟩
  rintro y2_1 _ h2
  refine tc tbk 4 (.mk ?_)
  obtain rfl := nxt_e h2
  refine w_ret (hret _ _ (hk [(1, ⟨82, 1, true, true, v3, [[lst 2 GLine.av a2]]⟩), (2, ⟨3, 1, true, true, v7, y2_1.map fI⟩)]) (.tmp rfl .nil) (HK.le ⟨rfl, rfl, trivial⟩) ?_)
  exact ⟨(0, y2_1), (), rfl, rfl, rfl⟩
  replace h2 := ct h2
  refine tc tbk 5 (.mk ?_)
  obtain rfl := nxt_e h2
  refine w_ret (hret _ _ (hk [(1, ⟨82, 1, true, true, v3, [[lst 2 GLine.av a2]]⟩), (2, ⟨3, 1, true, true, v7, a1.map fI⟩)]) (.tmp rfl .nil) (HK.le ⟨rfl, rfl, trivial⟩) ?_)
  exact ⟨(10, a1), (), rfl, rfl, rfl⟩
  rintro y _ ⟨⟨y3_1, y3_2⟩, _, rfl, hc, rfl⟩
  replace h1 := p2_e h1
  subst hc
  refine tr tbk 5 (.mk ?_)
  refine nb tbk h1 fun x25 h1 => ?_
  refine tr tbk 1 (.mk ?_)
  cases x25
  replace h1 := cf h1
  refine tc tbk 4 (.mk ?_)
  obtain ⟨p26, h1⟩ := asrt_e h1
  refine sY (yv_move rfl rfl) ?_
  refine tr tbk 3 (.mk ?_)
  obtain rfl := nxt_e h1
  refine w_ret (hret _ _ (hk [(1, ⟨82, 1, true, true, v3, [[lst 2 GLine.av a2]]⟩), (2, ⟨3, 1, true, true, v7, y3_2.map fI⟩)]) (.tmp rfl (.tmp rfl .nil)) (HK.le ⟨rfl, rfl, trivial⟩) ?_)
  exact (.inl ⟨y3_2, v7, rfl, (CvL.tup (.cons (cv_slen (Eq.symm p26)) (.cons (.refl _) .nil))), rfl⟩)
  replace h1 := ct h1
  refine tc tbk 4 (.mk ?_)
  obtain ⟨p27, h1⟩ := asrt_e h1
  refine rse rfl rfl rfl (yl_call rfl rfl (.cons rfl .nil) cal120 (pc_cv (clone120_c (id := 4) (l := a1) rfl p27) (.cons (.refl _) .nil))) ?_; rintro _ _ ⟨v28, rfl, rfl⟩
  refine tr tbk 4 (.mk ?_)
  obtain rfl := nxt_e h1
  refine w_ret (hret _ _ (hk [(1, ⟨82, 1, true, true, v3, [[lst 2 GLine.av a2]]⟩), (4, ⟨3, 1, true, true, v28, a1.map fI⟩)]) (.tmp rfl (.tmp rfl .nil)) (HK.le ⟨rfl, rfl, trivial⟩) ?_)
  exact (.inr ⟨y3_1, v28, rfl, (.refl _), rfl⟩)
  rintro y _ (⟨y4_2, w4_1, rfl, hc, rfl⟩ | ⟨y5_2, w5_1, rfl, hc, rfl⟩)
  replace h0 := selr_l h0
  refine rs_cv 11 (.tup [.sl 2 w4_1 0 y4_2.length, int 0]) rfl hc ?_
  refine tr tbk 5 (.mk ?_)
  obtain rfl := nxt_e h0
  refine wR hret (rT (rT .nil)) ?_
  exact CvL.tup (.cons (cv_lst rfl rfl rfl rfl rfl (Eq.symm rfl)) (.cons (.refl _) .nil))
  replace h0 := selr_r h0
  refine rs_cv 11 (.tup [.sl 4 w5_1 0 a1.length, int y5_2]) rfl hc ?_
  refine tr tbk 5 (.mk ?_)
  obtain rfl := nxt_e h0
  refine wR hret (rT (rT .nil)) ?_
  exact CvL.tup (.cons (cv_lst rfl rfl rfl rfl rfl (Eq.symm rfl)) (.cons (.refl _) .nil))
  replace h0 := ct h0
  refine tc tbk 6 (.mk ?_)
  obtain rfl := nxt_e h0
  refine wR hret (rT (rT .nil)) ?_
  exact CvL.tup (.cons (.nil _) (.cons (.refl _) .nil))
def d_stock_Post (n : Nat) (a1 : GState) (a2 : Int) (a3 : List GLine) : Option (GState × Int) :=
(show Option (Bool) from
bnd (decide (a2 < 0)) fun x7 =>
cond x7 (some (true : Bool)) (bnd (decide (a2 ≥ (a1.Ents.length : Int))) fun x8 =>
some (x8 : Bool))).bind <| fun y0_1 =>
cond y0_1 (some ((a1 : GState), (4 : Int))) ((d_voucher_Plain n a3).bind fun x9 =>
bnd (decide (x9.2 ≠ 0)) fun x10 =>
cond x10 (some ((a1 : GState), (x9.2 : Int))) ((ix a1.Ents a2).bind fun x11 =>
(d_gl_Post n x11.Bal x9.1).bind fun x12 =>
bnd (decide (x12.2 ≠ 0)) fun x13 =>
cond x13 (some ((a1 : GState), (x12.2 : Int))) ((show Option ((Unit)) from
asrt (a1.Ents.length ≤ 68719476736) <|
(ix a1.Ents a2).bind fun x18 =>
some ()).bind <| fun _ =>
(ix a1.Ents a2).bind fun x19 =>
bnd (a1.Ents.set (Int.toNat a2) ((⟨x19.Now, x19.Closed, x19.Pools, x12.1, x19.Rolls, x19.Prices, x19.Down, x19.Ahead⟩ : GEnt) : GEnt)) fun x20 =>
some (((⟨a1.Master, x20, a1.Receipts, a1.Sales, a1.Transits, a1.Done⟩ : GState) : GState), (0 : Int)))))
theorem d_stock_Post_c {n : Nat} {a1 : GState} {a2 : Int} {a3 : List GLine} {r : GState × Int} (h0 : d_stock_Post n a1 a2 a3 = some r) : PP Tryz.prog 60 [.agg (GState.av a1), int a2, lst 2 GLine.av a3] (fun y => y = .tup [.agg (GState.av r.1), int r.2]) := by
  unfold d_stock_Post at h0
  refine pp_of_pc (R0 := fun y H => Cv (frzH H) y (.tup [.agg (GState.av r.1), int r.2])) ?_ (fun y H hc => ⟨_, rfl, .tup (pvl2 ((fun (a : GState) => PV.agg (GState.pvc a)) (r.1)) (pvI (r.2))), hc⟩)
  refine pcw (c := _) Tryz.func60 rfl rfl ?_; intro Q hret hnorm
  refine tc tbk 2 (.mk ?_)
  refine sB 1 fun v4 => ?_
  refine sA 2 z32 fun v5 => ?_
  refine tr tbk 4 (.mk ?_)
  refine jn h0 [1, 2, 3, 6, 7] [1, 2] (fun (a : Bool) (k : Unit) => [(20, boo a)]) (fun a k => []) ⟨fun j6 h1 => ?_, ?_⟩
  refine tc tbk 2 (.mk ?_)
  refine nb tbk h1 fun x7 h1 => ?_
  refine tr tbk 1 (.mk ?_)
  cases x7
  replace h1 := cf h1
  refine tr tbk 3 (.mk ?_)
  refine sY (yv_len_sl rfl Tryz.underlying27 rfl (lst_len _)) ?_
  refine nb tbk h1 fun x8 h1 => ?_
  refine tr tbk 2 (.mk ?_)
  exact lf h1 () leA
  replace h1 := ct h1
  refine tr tbk 7 (.mk ?_)
  exact lf h1 () leA
  rintro y0_1 _ h0
  cases y0_1
  replace h0 := cf h0
  refine tc tbk 5 (.mk ?_)
  obtain ⟨x9, e9, h0⟩ := bind_e h0
  refine sC cal108 (d_voucher_Plain_c e9) ?_
  refine tr tbk 10 (.mk ?_)
  refine nb tbk h0 fun x10 h0 => ?_
  refine tr tbk 1 (.mk ?_)
  cases x10
  replace h0 := cf h0
  refine tc tbk 7 (.mk ?_)
  obtain ⟨x11, e11, h0⟩ := bind_e h0
  refine sY (yv_to (y := .pp [int x11.Now, boo x11.Closed, lst 4 GPool.av x11.Pools, lst 1 fI x11.Bal, lst 11 GRoll.av x11.Rolls, lst 1 fI x11.Prices, lst 1 fI x11.Down, lst 8 GEnt.av x11.Ahead]) (yv_ixT rfl Tryz.underlying27 sh47 rfl rfl e11) (congrArg AV.pp (GEnt.av_eq x11))) ?_
  refine tr tbk 3 (.mk ?_)
  obtain ⟨x12, e12, h0⟩ := bind_e h0
  refine sC cal109 (d_gl_Post_c e12) ?_
  refine tr tbk 10 (.mk ?_)
  refine nb tbk h0 fun x13 h0 => ?_
  refine tr tbk 1 (.mk ?_)
  cases x13
  replace h0 := cf h0
  refine tc tbk 5 (.mk ?_)
  refine sY (yv_build (cs := (GState.av a1)) (ps := [(0, _)]) rfl pl93 z93 rfl (.cons rfl .nil) (by kernel_rfl)) ?_
  refine sA 3 z93 fun v14 => ?_
  refine sS ⟨93, 10, true, true, v14, [(GState.av a1)]⟩ sh93 ?_
  refine tr tbk 4 (.mk ?_)
  obtain ⟨j15, h1, h0⟩ := bind_e h0
  refine rse (Out := fun y H' => (∃ (a : Unit) (k : Nat), a = j15 ∧ y = .pt 4 k (Int.toNat a2) 0 ∧ H' = hk [(1, ⟨32, 10, true, true, v4, [(GState.av a1)]⟩), (2, ⟨32, 10, true, true, v5, [[int 0, int 0, .sc (.slice none 0 0), .sc (.slice none 0 0), .sc (.slice none 0 0), .sc (.slice none 0 0), .sc (.slice none 0 0), .sc (.slice none 0 0), .sc (.slice none 0 0), int 0]]⟩), (3, ⟨93, 10, true, true, v14, [[int a1.Master.Entities, int a1.Master.Periods, lst 1 fI a1.Master.Weights, lst 1 (fL 1 fI) a1.Master.Methods, lst 1 (fL 1 fI) a1.Master.Costs, .sl 4 k 0 a1.Ents.length, lst 8 GReceipt.av a1.Receipts, lst 9 GSale.av a1.Sales, lst 6 GTransit.av a1.Transits, int a1.Done]]⟩), (4, ⟨47, 8, true, true, k, a1.Ents.map GEnt.av⟩)])) rfl rfl rfl (yl_call rfl rfl (.cons rfl (.cons rfl .nil)) cal97 ?_) ?_
  refine pcw (c := _) Tryz.func97 rfl rfl ?_; intro Q hret hnorm
  refine tc tbk 12 (.mk ?_)
  obtain ⟨p16, h1⟩ := asrt_e h1
  refine rse rfl rfl rfl (yl_call rfl rfl (.cons rfl .nil) cal121 (pc_cv (clone121_c (id := 4) (l := a1.Ents) rfl p16) (.cons (.refl _) .nil))) ?_; rintro _ _ ⟨v17, rfl, rfl⟩
  refine tr tbk 3 (.mk ?_)
  refine sS ⟨93, 10, true, true, v14, [[int a1.Master.Entities, int a1.Master.Periods, lst 1 fI a1.Master.Weights, lst 1 (fL 1 fI) a1.Master.Methods, lst 1 (fL 1 fI) a1.Master.Costs, .sl 4 v17 0 a1.Ents.length, lst 8 GReceipt.av a1.Receipts, lst 9 GSale.av a1.Sales, lst 6 GTransit.av a1.Transits, int a1.Done]]⟩ sh27 ?_
  refine tr tbk 9 (.mk ?_)
  obtain ⟨x18, e18, h1⟩ := bind_e h1
  refine sY (yv_ixO rfl Tryz.underlying27 sh47 rfl rfl rfl rfl rfl (Eq.symm rfl) (List.length_map _) e18) ?_
  refine tr tbk 2 (.mk ?_)
  obtain rfl := nxt_e h1
  refine w_ret (hret _ _ (hk [(1, ⟨32, 10, true, true, v4, [(GState.av a1)]⟩), (2, ⟨32, 10, true, true, v5, [[int 0, int 0, .sc (.slice none 0 0), .sc (.slice none 0 0), .sc (.slice none 0 0), .sc (.slice none 0 0), .sc (.slice none 0 0), .sc (.slice none 0 0), .sc (.slice none 0 0), int 0]]⟩), (3, ⟨93, 10, true, true, v14, [[int a1.Master.Entities, int a1.Master.Periods, lst 1 fI a1.Master.Weights, lst 1 (fL 1 fI) a1.Master.Methods, lst 1 (fL 1 fI) a1.Master.Costs, .sl 4 v17 0 a1.Ents.length, lst 8 GReceipt.av a1.Receipts, lst 9 GSale.av a1.Sales, lst 6 GTransit.av a1.Transits, int a1.Done]]⟩), (4, ⟨47, 8, true, true, v17, a1.Ents.map GEnt.av⟩)]) (.tmp rfl .nil) (HK.le ⟨rfl, rfl, rfl, rfl, trivial⟩) ?_)
  exact ⟨(), v17, rfl, rfl, rfl⟩
  rintro y _ ⟨_, w1_1, rfl, hc, rfl⟩
  subst hc
  refine tr tbk 1 (.mk ?_)
  obtain ⟨x19, e19, h0⟩ := bind_e h0
  refine sY (yv_nilCheck rfl rfl (.pt rfl rfl (ix_get' e19 (GEnt.av_eq _)))) ?_
  refine sY (yv_fieldAddr rfl fo47_3 rfl (.pt rfl rfl (ix_get' e19 (GEnt.av_eq _))) (.pt _ _ _ _ _)) ?_
  obtain ⟨x20, e20, h0⟩ := bnd_e h0
  have fx20 := ix_set e19 e20; have lx20 := len_setV e20 (rfl : a1.Ents.length = a1.Ents.length)
  refine rsstore rfl rfl (yl_ob (ob' := (⟨47, 8, true, true, w1_1, x20.map GEnt.av⟩ : AObj)) (yl_store rfl sh23 rfl rfl rfl rfl rfl (ix_get' e19 (GEnt.av_eq _)) rfl rfl rfl) (ob_eq (map_setR e20 (GEnt.av_eq _)))) ?_
  refine tr tbk 5 (.mk ?_)
  refine sS ⟨32, 10, true, true, v5, [[int a1.Master.Entities, int a1.Master.Periods, lst 1 fI a1.Master.Weights, lst 1 (fL 1 fI) a1.Master.Methods, lst 1 (fL 1 fI) a1.Master.Costs, .sl 4 w1_1 0 a1.Ents.length, lst 8 GReceipt.av a1.Receipts, lst 9 GSale.av a1.Sales, lst 6 GTransit.av a1.Transits, int a1.Done]]⟩ sh32 ?_
  refine tr tbk 2 (.mk ?_)
  obtain rfl := nxt_e h0
  refine wR hret (rC sh32 (rT .nil)) ?_
  exact CvL.tup (.cons (CvL.agg (.cons (.refl _) (.cons (.refl _) (.cons (.refl _) (.cons (.refl _) (.cons (.refl _) (.cons (cv_lst rfl rfl rfl rfl rfl (Eq.symm lx20)) (.cons (.refl _) (.cons (.refl _) (.cons (.refl _) (.cons (.refl _) .nil))))))))))) (.cons (.refl _) .nil))
  replace h0 := ct h0
  refine tc tbk 5 (.mk ?_)
  refine sS ⟨32, 10, true, true, v5, [(GState.av a1)]⟩ sh32 ?_
  refine tr tbk 2 (.mk ?_)
  obtain rfl := nxt_e h0
  refine wR hret (rC sh32 (rT .nil)) ?_
  exact .refl _
  replace h0 := ct h0
  refine tc tbk 5 (.mk ?_)
  refine sS ⟨32, 10, true, true, v5, [(GState.av a1)]⟩ sh32 ?_
  refine tr tbk 2 (.mk ?_)
  obtain rfl := nxt_e h0
  refine wR hret (rC sh32 (rT .nil)) ?_
  exact .refl _
  replace h0 := ct h0
  refine tc tbk 4 (.mk ?_)
  refine sS ⟨32, 10, true, true, v5, [(GState.av a1)]⟩ sh32 ?_
  refine tr tbk 2 (.mk ?_)
  obtain rfl := nxt_e h0
  refine wR hret (rC sh32 (rT .nil)) ?_
  exact .refl _
end Go.Pv
