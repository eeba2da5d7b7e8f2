import Derived.Test.YtppokdmifjmdfaaGreatK13
set_option linter.unusedVariables false
namespace Go.Pv
open Go.Proofs
set_option maxRecDepth 10000
set_option maxHeartbeats 1000000
def d_ref14_Turn_L0 (a1 : GState) (a2 : Int) (a3 : Int) (a4 : GRoll) (x13 : A11_Int) : Nat → Int → (List Int) → Option (((List Int)) ⊕ (GState × Int))
  | 0, _, _ => none
  | n + 1, y0_1, y0_2 =>
    bnd (decide (y0_1 < 11)) fun x17 =>
    cond x17 (asrt ((0 : Int) ≤ y0_1 ∧ y0_1 < (11 : Int)) <|
    (ix y0_2 y0_1).bind fun x19 =>
    asrt ((0 : Int) ≤ y0_1 ∧ y0_1 < (11 : Int)) <|
    (ix ([x13.a0, x13.a1, x13.a2, x13.a3, x13.a4, x13.a5, x13.a6, x13.a7, x13.a8, x13.a9, x13.a10] : List Int) y0_1).bind fun x21 =>
    (d_ref01_Add x19 x21).bind fun x22 =>
    bnd (decide (x22.2 ≠ 0)) fun x23 =>
    cond x23 (esc (some ((a1 : GState), (x22.2 : Int)))) (asrt ((0 : Int) ≤ y0_1 ∧ y0_1 < (11 : Int)) <|
    bnd (y0_2.set (Int.toNat y0_1) x22.1) fun x25 =>
    bnd (w64 (y0_1 + 1)) fun x26 =>
    d_ref14_Turn_L0 a1 a2 a3 a4 x13 n (x26 : Int) (x25 : List Int))) (brk (y0_2 : List Int))
def d_ref14_Turn (n : Nat) (a1 : GState) (a2 : Int) (a3 : Int) (a4 : GRoll) : Option (GState × Int) :=
(d_ref14_there a1 a2 a3).bind fun x8 =>
bnd (!x8) fun x9 =>
cond x9 (some ((a1 : GState), (4 : Int))) ((ix a1.Ents a2).bind fun x10 =>
(ix x10.Rolls a3).bind fun x11 =>
(d_ref14_Numbers x11).bind fun x12 =>
(d_ref14_Numbers a4).bind fun x13 =>
(show Option (((List Int)) ⊕ (GState × Int)) from
d_ref14_Turn_L0 a1 a2 a3 a4 x13 n (0 : Int) (([x12.a0, x12.a1, x12.a2, x12.a3, x12.a4, x12.a5, x12.a6, x12.a7, x12.a8, x12.a9, x12.a10] : List Int) : List Int)).bind <| sel <| fun y1_1 =>
(show Option ((Int × Bool × (List GEnt) × (List GPool) × (List Int) × (List GRoll) × (List Int) × (List Int))) from
asrt (a1.Ents.length ≤ 68719476736) <|
(ix a1.Ents a2).bind fun x33 =>
asrt (x33.Pools.length ≤ 68719476736) <|
asrt (x33.Bal.length ≤ 68719476736) <|
asrt (x33.Rolls.length ≤ 68719476736) <|
asrt (x33.Prices.length ≤ 68719476736) <|
asrt (x33.Down.length ≤ 68719476736) <|
some ((x33.Now : Int), (x33.Closed : Bool), (x33.Ahead : List GEnt), (x33.Pools : List GPool), (x33.Bal : List Int), (x33.Rolls : List GRoll), (x33.Prices : List Int), (x33.Down : List Int))).bind <| p2 fun (y2_2 : Int) (q0 : Bool × (List GEnt) × (List GPool) × (List Int) × (List GRoll) × (List Int) × (List Int)) => (p2 fun (y2_3 : Bool) (q1 : (List GEnt) × (List GPool) × (List Int) × (List GRoll) × (List Int) × (List Int)) => (p2 fun (y2_9 : List GEnt) (q2 : (List GPool) × (List Int) × (List GRoll) × (List Int) × (List Int)) => (p2 fun (y2_10 : List GPool) (q3 : (List Int) × (List GRoll) × (List Int) × (List Int)) => (p2 fun (y2_11 : List Int) (q4 : (List GRoll) × (List Int) × (List Int)) => (p2 fun (y2_12 : List GRoll) (q5 : (List Int) × (List Int)) => (p2 fun (y2_13 : List Int) (y2_14 : List Int) =>
(ix a1.Ents a2).bind fun x44 =>
asrt (y1_1.length = 11) <|
(d_ref14_Roll (⟨(y1_1.getD 0 0), (y1_1.getD 1 0), (y1_1.getD 2 0), (y1_1.getD 3 0), (y1_1.getD 4 0), (y1_1.getD 5 0), (y1_1.getD 6 0), (y1_1.getD 7 0), (y1_1.getD 8 0), (y1_1.getD 9 0), (y1_1.getD 10 0)⟩ : A11_Int)).bind fun x47 =>
(ix y2_12 a3).bind fun x48 =>
bnd (y2_12.set (Int.toNat a3) (x47 : GRoll)) fun x49 =>
some (((⟨a1.Master, (a1.Ents.set (Int.toNat a2) (⟨y2_2, y2_3, y2_10, y2_11, x49, y2_13, y2_14, y2_9⟩ : GEnt)), a1.Receipts, a1.Sales, a1.Transits, a1.Done⟩ : GState) : GState), (0 : Int))) q5) q4) q3) q2) q1) q0)
theorem d_ref14_Turn_c {n : Nat} {a1 : GState} {a2 : Int} {a3 : Int} {a4 : GRoll} {r : GState × Int} (h0 : d_ref14_Turn n a1 a2 a3 a4 = some r) : PP Tryz.prog 39 [.agg (GState.av a1), int a2, int a3, .agg (GRoll.av a4)] (fun y => y = .tup [.agg (GState.av r.1), int r.2]) := by
  unfold d_ref14_Turn at h0
  refine pp_of_pc (R0 := fun y H => Cv (frzH H) y (.tup [.agg (GState.av r.1), int r.2])) ?_ (fun y H hc => ⟨_, rfl, .tup (pvl2 ((fun (a : GState) => PV.agg (GState.pvc a)) (r.1)) (pvI (r.2))), hc⟩)
  refine pcw (c := _) Tryz.func39 rfl rfl ?_; intro Q hret hnorm
  refine tc tbk 2 (.mk ?_)
  refine sB 1 fun v5 => ?_
  refine sB 2 fun v6 => ?_
  refine sA 3 z32 fun v7 => ?_
  refine tr tbk 8 (.mk ?_)
  obtain ⟨x8, e8, h0⟩ := bind_e h0
  refine sC cal32 (d_ref14_there_c e8) ?_
  refine nb tbk h0 fun x9 h0 => ?_
  refine tr tbk 1 (.mk ?_)
  cases x9
  replace h0 := cf h0
  refine tc tbk 3 (.mk ?_)
  refine c_draw [0, 1, 0, 7, 15, 31, 0, 127, 255, 511, 0, 2047, 0, 0, 16383, 32767] (fun i k => bif Nat.beq i 0 then (Nat.beq k 1) else bif Nat.beq i 1 then (Nat.beq k 1) else bif Nat.beq i 10 then (Nat.beq k 2) else bif Nat.beq i 14 then (Nat.beq k 4) else bif Nat.beq i 15 then (Nat.beq k 5) else false) (fun i => bif Nat.beq i 12 then (some 4) else bif Nat.beq i 13 then (some 5) else bif Nat.beq i 14 then (some 4) else bif Nat.beq i 15 then (some 5) else none) mixed (by kernel_rfl) ?_; intro C K hK
  refine dg_pure rfl (fun H hH => yv_fieldAddr rfl fo32_1 rfl (.pt ((hH _ rfl).trans rfl) rfl rfl) (.pt _ _ _ _ _)) ?_
  refine dg_pure rfl (fun H hH => yv_load rfl sh27 rfl (.pt ((hH _ rfl).trans rfl) rfl rfl) rfl) ?_
  refine dg_pure rfl (fun H hH => yv_move rfl rfl) ?_
  obtain ⟨x10, e10, h0⟩ := bind_e h0
  refine dg_pure rfl (fun H hH => yv_to (y := .pp [int x10.Now, boo x10.Closed, lst 4 GPool.av x10.Pools, lst 1 fI x10.Bal, lst 11 GRoll.av x10.Rolls, lst 1 fI x10.Prices, lst 1 fI x10.Down, lst 8 GEnt.av x10.Ahead]) (yv_ixT rfl Tryz.underlying27 sh47 rfl rfl e10) (congrArg AV.pp (GEnt.av_eq x10))) ?_
  refine dg_pure rfl (fun H hH => yv_fieldAddr rfl fo47_4 rfl (.pp _) (.pp _ _)) ?_
  refine dg_pure rfl (fun H hH => yv_load rfl sh45 rfl (.pp _) rfl) ?_
  refine dg_pure rfl (fun H hH => yv_move rfl rfl) ?_
  obtain ⟨x11, e11, h0⟩ := bind_e h0
  refine dg_pure rfl (fun H hH => yv_ixT rfl Tryz.underlying45 sh54 rfl rfl e11) ?_
  refine dg_pure rfl (fun H hH => yv_load rfl sh54 rfl (.pp _) rfl) ?_
  obtain ⟨x12, e12, h0⟩ := bind_e h0
  refine dg_pure rfl (fun H hH => yv_callP rfl rfl (.cons rfl .nil) cal79 (CvL.refl _) (d_ref14_Numbers_c e12)) ?_
  refine dg_pure rfl (fun H hH => yv_load rfl sh54 rfl (.pt ((hH _ rfl).trans rfl) rfl rfl) rfl) ?_
  obtain ⟨x13, e13, h0⟩ := bind_e h0
  refine dg_pure rfl (fun H hH => yv_callP rfl rfl (.cons rfl .nil) cal79 (CvL.refl _) (d_ref14_Numbers_c e13)) ?_
  refine dg_eff rfl rfl (fun H hH => yl_alloc1 4 rfl z119 rfl) ?_; generalize C + 12 = v14
  refine dg_eff rfl rfl (fun H hH => yl_alloc1 5 rfl z119 rfl) ?_; generalize C + 13 = v15
  refine dg_store rfl rfl rfl (fun H hH => yl_ob (ob' := (⟨119, 11, true, true, v14, [[int x12.a0, int x12.a1, int x12.a2, int x12.a3, int x12.a4, int x12.a5, int x12.a6, int x12.a7, int x12.a8, int x12.a9, int x12.a10]]⟩ : AObj)) (yl_store rfl sh119 rfl rfl ((hH _ rfl).trans rfl) rfl rfl rfl rfl rfl rfl) rfl) ?_
  refine dg_store rfl rfl rfl (fun H hH => yl_ob (ob' := (⟨119, 11, true, true, v15, [[int x13.a0, int x13.a1, int x13.a2, int x13.a3, int x13.a4, int x13.a5, int x13.a6, int x13.a7, int x13.a8, int x13.a9, int x13.a10]]⟩ : AObj)) (yl_store rfl sh119 rfl rfl ((hH _ rfl).trans rfl) rfl rfl rfl rfl rfl rfl) rfl) ?_
  refine dg_nil (hK _ ?_)
  refine tc tbk 5 (.mk ?_)
  refine jnE h0 [1, 2, 4, 8, 9, 10] [1, 3] (fun (a : (List Int)) (k : Unit) => []) (fun a k => [(4, ⟨119, 11, true, true, v14, [a.map int]⟩)]) ⟨fun j16 h1 h0 => ?_, ?_⟩
  refine tc tbk 1 (.mk ?_)
  refine lp (fun n (a : Int × (List Int)) => d_ref14_Turn_L0 a1 a2 a3 a4 x13 n a.1 a.2) ((0 : Int), (([x12.a0, x12.a1, x12.a2, x12.a3, x12.a4, x12.a5, x12.a6, x12.a7, x12.a8, x12.a9, x12.a10] : List Int) : List Int)) () h1 [1, 2, 4, 8, 9, 10, 11] [1, 3, 5] (fun (a : Int × (List Int)) (k : Unit) => [(12, int a.1)]) (fun a k => [(4, ⟨119, 11, true, true, v14, [a.2.map int]⟩)]) (fun _ => rfl) ⟨leA, ?_⟩
  rintro n ⟨y0_1, y0_2⟩ _ hm h1
  replace h1 : d_ref14_Turn_L0 a1 a2 a3 a4 x13 (n + 1) y0_1 y0_2 = some _ := h1
  rw [d_ref14_Turn_L0] at h1
  refine tc tbk 4 (.mk ?_)
  refine nb tbk h1 fun x17 h1 => ?_
  refine tr tbk 1 (.mk ?_)
  cases x17
  replace h1 := cf h1
  refine tc tbk 2 (.mk ?_)
  exact lfE h1 () leA
  replace h1 := ct h1
  refine tc tbk 5 (.mk ?_)
  refine c_drawE [0, 1, 3, 0, 8, 24, 63, 127, 255, 255, 511, 2047] (rl [(1, [4]), (2, [4]), (4, [5]), (5, [5])] []) (fun i => [4, 5]) (fun i => true) [0, 1, 2, 3, 4, 5, 6, 7, 8, 9, 10, 11] mixed (by kernel_rfl) ?_; intro K hK
  refine eM ?_
  obtain ⟨p18, h1⟩ := asrt_e h1
  obtain ⟨x19, e19, h1⟩ := bind_e h1
  refine de_pure rfl rfl rfl rfl (fun H hH => yv_ixAR rfl Tryz.underlying119 sh3 rfl rfl ((hH _ (by decide)).trans rfl) rfl rfl p18) ?_
  refine de_pure rfl rfl rfl rfl (fun H hH => yv_ldAR rfl sh3 rfl ((hH _ (by decide)).trans rfl) rfl rfl e19) ?_
  refine eM ?_
  obtain ⟨p20, h1⟩ := asrt_e h1
  obtain ⟨x21, e21, h1⟩ := bind_e h1
  refine de_pure rfl rfl rfl rfl (fun H hH => yv_ixAR rfl Tryz.underlying119 sh3 rfl rfl ((hH _ (by decide)).trans rfl) rfl rfl p20) ?_
  refine de_pure rfl rfl rfl rfl (fun H hH => yv_ldAR rfl sh3 rfl ((hH _ (by decide)).trans rfl) rfl rfl e21) ?_
  obtain ⟨x22, e22, h1⟩ := bind_e h1
  refine eP (fun H hH => yv_callP rfl rfl (.cons rfl (.cons rfl .nil)) cal80 (CvL.refl _) (d_ref01_Add_c e22)) ?_
  refine eM ?_
  iterate 2 refine eX ?_
  iterate 2 refine eA ?_
  refine de_nil (hK _ ?_)
  refine tc tbk 4 (.mk ?_)
  refine nb tbk h1 fun x23 h1 => ?_
  refine tr tbk 1 (.mk ?_)
  cases x23
  replace h1 := cf h1
  refine tc tbk 5 (.mk ?_)
  obtain ⟨p24, h1⟩ := asrt_e h1
  refine sY (yv_ixAR rfl Tryz.underlying119 sh3 rfl rfl rfl rfl rfl p24) ?_
  obtain ⟨x25, e25, h1⟩ := bnd_e h1
  refine rsstore rfl rfl (yl_ob (ob' := (⟨119, 11, true, true, v14, [x25.map int]⟩ : AObj)) (yl_stAR rfl sh3 rfl rfl rfl rfl rfl rfl e19 e25) rfl) ?_
  refine tr tbk 4 (.mk ?_)
  refine ni tbk h1 fun x26 h1 => ?_
  refine tr tbk 2 (.mk ?_)
  exact bk (x26, x25) () h1 leA
  replace h1 := ct h1
  refine tc tbk 5 (.mk ?_)
  refine sS ⟨32, 10, true, true, v7, [(GState.av a1)]⟩ sh32 ?_
  refine tr tbk 2 (.mk ?_)
  obtain ⟨c27, hX, hj⟩ := esc_e h1; subst hj; replace h0 := hX.trans (sel_r h0)
  obtain rfl := nxt_e h0
  refine wR hret (rC sh32 (rT .nil)) ?_
  exact .refl _
  rintro y1_1 _ h0
  refine tc tbk 4 (.mk ?_)
  obtain ⟨j28, h1, h0⟩ := bind_e h0
  refine rse (Out := fun y H' => (∃ (a : Int × Bool × (List GEnt) × (List GPool) × (List Int) × (List GRoll) × (List Int) × (List Int)) (k : Nat × Nat × Nat × Nat × Nat × Nat), a = j28 ∧ y = .agg [int a1.Master.Entities, int a1.Master.Periods, lst 1 fI a1.Master.Weights, lst 1 (fL 1 fI) a1.Master.Methods, lst 1 (fL 1 fI) a1.Master.Costs, .sl 8 k.1 0 a1.Ents.length, lst 8 GReceipt.av a1.Receipts, lst 9 GSale.av a1.Sales, lst 6 GTransit.av a1.Transits, int a1.Done] ∧ H' = hk [(1, ⟨32, 10, true, true, v5, [(GState.av a1)]⟩), (3, ⟨32, 10, true, true, v7, [[int 0, int 0, .sc (.slice none 0 0), .sc (.slice none 0 0), .sc (.slice none 0 0), .sc (.slice none 0 0), .sc (.slice none 0 0), .sc (.slice none 0 0), .sc (.slice none 0 0), int 0]]⟩), (4, ⟨119, 11, true, true, v14, [y1_1.map int]⟩), (8, ⟨47, 8, true, true, k.1, (a1.Ents.map GEnt.av).set (Int.toNat a2) [int a.1, boo a.2.1, .sl 9 k.2.1 0 a.2.2.2.1.length, .sl 10 k.2.2.1 0 a.2.2.2.2.1.length, .sl 11 k.2.2.2.1 0 a.2.2.2.2.2.1.length, .sl 12 k.2.2.2.2.1 0 a.2.2.2.2.2.2.1.length, .sl 13 k.2.2.2.2.2 0 a.2.2.2.2.2.2.2.length, lst 8 GEnt.av a.2.2.1]⟩), (9, ⟨42, 4, true, true, k.2.1, a.2.2.2.1.map GPool.av⟩), (10, ⟨3, 1, true, true, k.2.2.1, a.2.2.2.2.1.map fI⟩), (11, ⟨54, 11, true, true, k.2.2.2.1, a.2.2.2.2.2.1.map GRoll.av⟩), (12, ⟨3, 1, true, true, k.2.2.2.2.1, a.2.2.2.2.2.2.1.map fI⟩), (13, ⟨3, 1, true, true, k.2.2.2.2.2, a.2.2.2.2.2.2.2.map fI⟩)])) rfl rfl rfl (yl_call rfl rfl (.cons rfl (.cons rfl .nil)) cal78 ?_) ?_
  refine pcw (c := _) Tryz.func78 rfl rfl ?_; intro Q hret hnorm
  refine tc tbk 2 (.mk ?_)
  refine sB 6 fun v29 => ?_
  refine sA 7 z32 fun v30 => ?_
  refine tr tbk 5 (.mk ?_)
  obtain ⟨p31, h1⟩ := asrt_e h1
  refine rse rfl rfl rfl (yl_app0T (g := GEnt.av) (m := a1.Ents) 8 rfl Tryz.underlying27 bz47 by47 rfl rfl rfl rfl (.refl _) GEnt.one p31) ?_; rintro _ _ ⟨v32, rfl, rfl⟩
  refine tr tbk 1 (.mk ?_)
  refine sS ⟨32, 10, true, true, v29, [[int a1.Master.Entities, int a1.Master.Periods, lst 1 fI a1.Master.Weights, lst 1 (fL 1 fI) a1.Master.Methods, lst 1 (fL 1 fI) a1.Master.Costs, .sl 8 v32 0 a1.Ents.length, lst 8 GReceipt.av a1.Receipts, lst 9 GSale.av a1.Sales, lst 6 GTransit.av a1.Transits, int a1.Done]]⟩ sh27 ?_
  refine tr tbk 6 (.mk ?_)
  obtain ⟨x33, e33, h1⟩ := bind_e h1
  refine sY (yv_ixO rfl Tryz.underlying27 sh47 rfl rfl rfl rfl rfl (Eq.symm rfl) (List.length_map _) e33) ?_
  refine tr tbk 3 (.mk ?_)
  refine c_drawE [0, 0, 0, 0, 8, 24, 56, 120, 0, 256, 768, 1792, 4088, 0, 8192, 24576, 57344, 131064, 262137, 524281, 1048569, 2097147, 4194299, 8388603, 16777215, 33554431, 67108863] (rl [(4, [8]), (5, [8]), (6, [8]), (9, [8]), (10, [8]), (11, [8]), (14, [8]), (15, [8]), (16, [8]), (18, [8]), (19, [8]), (21, [8]), (22, [8]), (24, [8]), (25, [8])] []) (rl [(17, []), (20, []), (23, []), (26, [])] [8]) (rl [(7, false), (12, false), (17, false), (20, false), (23, false), (26, false)] true) [0, 1, 2, 3, 4, 5, 6, 8, 9, 10, 11, 13, 14, 15, 16, 7, 12, 17, 18, 19, 20, 21, 22, 23, 24, 25, 26] mixed (by kernel_rfl) ?_; intro K hK
  iterate 4 refine eM ?_
  refine eN (hr := ix_get' e33 (GEnt.av_eq _)) ?_
  refine eF fo47_2 (hr := ix_get' e33 (GEnt.av_eq _)) ?_
  refine eL sh44 (hr := ix_get' e33 (GEnt.av_eq _)) ?_
  refine eM ?_
  refine eN (hr := ix_get' e33 (GEnt.av_eq _)) ?_
  refine eF fo47_3 (hr := ix_get' e33 (GEnt.av_eq _)) ?_
  refine eL sh23 (hr := ix_get' e33 (GEnt.av_eq _)) ?_
  refine eM ?_
  refine eN (hr := ix_get' e33 (GEnt.av_eq _)) ?_
  refine eF fo47_4 (hr := ix_get' e33 (GEnt.av_eq _)) ?_
  refine eL sh45 (hr := ix_get' e33 (GEnt.av_eq _)) ?_
  obtain ⟨p34, h1⟩ := asrt_e h1
  refine de_eff rfl rfl rfl rfl (yl_app0T (g := GPool.av) (m := x33.Pools) 9 rfl Tryz.underlying44 bz42 by42 rfl rfl rfl rfl (.refl _) (fun _ => rfl) p34) (by rintro _ _ ⟨v35, rfl, rfl⟩; exact ⟨rfl, trivial⟩) ?_; rintro _ _ ⟨v35, rfl, rfl⟩
  obtain ⟨p36, h1⟩ := asrt_e h1
  refine de_eff rfl rfl rfl rfl (yl_app0T (g := fI) (m := x33.Bal) 10 rfl Tryz.underlying23 bz3 by3 rfl rfl rfl rfl (.refl _) (fun _ => rfl) p36) (by rintro _ _ ⟨v37, rfl, rfl⟩; exact ⟨rfl, trivial⟩) ?_; rintro _ _ ⟨v37, rfl, rfl⟩
  obtain ⟨p38, h1⟩ := asrt_e h1
  refine de_eff rfl rfl rfl rfl (yl_app0T (g := GRoll.av) (m := x33.Rolls) 11 rfl Tryz.underlying45 bz54 by54 rfl rfl rfl rfl (.refl _) (fun _ => rfl) p38) (by rintro _ _ ⟨v39, rfl, rfl⟩; exact trivial) ?_; rintro _ _ ⟨v39, rfl, rfl⟩
  refine eN (hr := ix_get' e33 (GEnt.av_eq _)) ?_
  refine eF fo47_2 (hr := ix_get' e33 (GEnt.av_eq _)) ?_
  refine de_eff0 rfl rfl rfl rfl (Yield.weak (yl_ob (ob' := (⟨47, 8, true, true, v32, (a1.Ents.map GEnt.av).set (Int.toNat a2) [int x33.Now, boo x33.Closed, .sl 9 v35 0 x33.Pools.length, lst 1 fI x33.Bal, lst 11 GRoll.av x33.Rolls, lst 1 fI x33.Prices, lst 1 fI x33.Down, lst 8 GEnt.av x33.Ahead]⟩ : AObj)) (yl_store rfl sh44 rfl rfl rfl rfl rfl (ix_get' e33 (GEnt.av_eq _)) rfl rfl rfl) (ob_eq rfl)) (fun _ h => h) (fun _ _ => trivial)) (by rintro _ _ ⟨rfl, rfl⟩; exact trivial) ?_; rintro _ _ ⟨rfl, rfl⟩
  refine eN (hr := set_get e33) ?_
  refine eF fo47_3 (hr := set_get e33) ?_
  refine de_eff0 rfl rfl rfl rfl (Yield.weak (yl_ob (ob' := (⟨47, 8, true, true, v32, (a1.Ents.map GEnt.av).set (Int.toNat a2) [int x33.Now, boo x33.Closed, .sl 9 v35 0 x33.Pools.length, .sl 10 v37 0 x33.Bal.length, lst 11 GRoll.av x33.Rolls, lst 1 fI x33.Prices, lst 1 fI x33.Down, lst 8 GEnt.av x33.Ahead]⟩ : AObj)) (yl_store rfl sh23 rfl rfl rfl rfl rfl (set_get e33) rfl rfl rfl) (ob_eq set_setV)) (fun _ h => h) (fun _ _ => trivial)) (by rintro _ _ ⟨rfl, rfl⟩; exact trivial) ?_; rintro _ _ ⟨rfl, rfl⟩
  refine eN (hr := set_get e33) ?_
  refine eF fo47_4 (hr := set_get e33) ?_
  refine de_eff0 rfl rfl rfl rfl (Yield.weak (yl_ob (ob' := (⟨47, 8, true, true, v32, (a1.Ents.map GEnt.av).set (Int.toNat a2) [int x33.Now, boo x33.Closed, .sl 9 v35 0 x33.Pools.length, .sl 10 v37 0 x33.Bal.length, .sl 11 v39 0 x33.Rolls.length, lst 1 fI x33.Prices, lst 1 fI x33.Down, lst 8 GEnt.av x33.Ahead]⟩ : AObj)) (yl_store rfl sh45 rfl rfl rfl rfl rfl (set_get e33) rfl rfl rfl) (ob_eq set_setV)) (fun _ h => h) (fun _ _ => trivial)) (by rintro _ _ ⟨rfl, rfl⟩; exact trivial) ?_; rintro _ _ ⟨rfl, rfl⟩
  refine de_nil (hK _ ?_)
  refine tc tbk 1 (.mk ?_)
  refine c_drawE [0, 0, 0, 4, 12, 28, 60, 0, 128, 384, 896, 2044, 4093, 8189, 16381, 32767, 65535, 131071] (rl [(3, [8]), (4, [8]), (5, [8]), (8, [8]), (9, [8]), (10, [8]), (12, [8]), (13, [8]), (15, [8]), (16, [8])] []) (rl [(11, []), (14, []), (17, [])] [8]) (rl [(6, false), (11, false), (14, false), (17, false)] true) [0, 1, 2, 3, 4, 5, 7, 8, 9, 10, 6, 11, 12, 13, 14, 15, 16, 17] mixed (by kernel_rfl) ?_; intro K hK
  iterate 3 refine eM ?_
  refine eN (hr := set_get e33) ?_
  refine eF fo47_5 (hr := set_get e33) ?_
  refine eL sh23 (hr := set_get e33) ?_
  refine eM ?_
  refine eN (hr := set_get e33) ?_
  refine eF fo47_6 (hr := set_get e33) ?_
  refine eL sh23 (hr := set_get e33) ?_
  obtain ⟨p40, h1⟩ := asrt_e h1
  refine de_eff rfl rfl rfl rfl (yl_app0T (g := fI) (m := x33.Prices) 12 rfl Tryz.underlying23 bz3 by3 rfl rfl rfl rfl (.refl _) (fun _ => rfl) p40) (by rintro _ _ ⟨v41, rfl, rfl⟩; exact ⟨rfl, trivial⟩) ?_; rintro _ _ ⟨v41, rfl, rfl⟩
  obtain ⟨p42, h1⟩ := asrt_e h1
  refine de_eff rfl rfl rfl rfl (yl_app0T (g := fI) (m := x33.Down) 13 rfl Tryz.underlying23 bz3 by3 rfl rfl rfl rfl (.refl _) (fun _ => rfl) p42) (by rintro _ _ ⟨v43, rfl, rfl⟩; exact trivial) ?_; rintro _ _ ⟨v43, rfl, rfl⟩
  refine eN (hr := set_get e33) ?_
  refine eF fo47_5 (hr := set_get e33) ?_
  refine de_eff0 rfl rfl rfl rfl (Yield.weak (yl_ob (ob' := (⟨47, 8, true, true, v32, (a1.Ents.map GEnt.av).set (Int.toNat a2) [int x33.Now, boo x33.Closed, .sl 9 v35 0 x33.Pools.length, .sl 10 v37 0 x33.Bal.length, .sl 11 v39 0 x33.Rolls.length, .sl 12 v41 0 x33.Prices.length, lst 1 fI x33.Down, lst 8 GEnt.av x33.Ahead]⟩ : AObj)) (yl_store rfl sh23 rfl rfl rfl rfl rfl (set_get e33) rfl rfl rfl) (ob_eq set_setV)) (fun _ h => h) (fun _ _ => trivial)) (by rintro _ _ ⟨rfl, rfl⟩; exact trivial) ?_; rintro _ _ ⟨rfl, rfl⟩
  refine eN (hr := set_get e33) ?_
  refine eF fo47_6 (hr := set_get e33) ?_
  refine de_eff0 rfl rfl rfl rfl (Yield.weak (yl_ob (ob' := (⟨47, 8, true, true, v32, (a1.Ents.map GEnt.av).set (Int.toNat a2) [int x33.Now, boo x33.Closed, .sl 9 v35 0 x33.Pools.length, .sl 10 v37 0 x33.Bal.length, .sl 11 v39 0 x33.Rolls.length, .sl 12 v41 0 x33.Prices.length, .sl 13 v43 0 x33.Down.length, lst 8 GEnt.av x33.Ahead]⟩ : AObj)) (yl_store rfl sh23 rfl rfl rfl rfl rfl (set_get e33) rfl rfl rfl) (ob_eq set_setV)) (fun _ h => h) (fun _ _ => trivial)) (by rintro _ _ ⟨rfl, rfl⟩; exact trivial) ?_; rintro _ _ ⟨rfl, rfl⟩
  refine de_nil (hK _ ?_)
  refine tc tbk 3 (.mk ?_)
  refine sS ⟨32, 10, true, true, v30, [[int a1.Master.Entities, int a1.Master.Periods, lst 1 fI a1.Master.Weights, lst 1 (fL 1 fI) a1.Master.Methods, lst 1 (fL 1 fI) a1.Master.Costs, .sl 8 v32 0 a1.Ents.length, lst 8 GReceipt.av a1.Receipts, lst 9 GSale.av a1.Sales, lst 6 GTransit.av a1.Transits, int a1.Done]]⟩ sh32 ?_
  refine tr tbk 1 (.mk ?_)
  obtain rfl := nxt_e h1
  refine w_ret (hret _ _ (hk [(1, ⟨32, 10, true, true, v5, [(GState.av a1)]⟩), (3, ⟨32, 10, true, true, v7, [[int 0, int 0, .sc (.slice none 0 0), .sc (.slice none 0 0), .sc (.slice none 0 0), .sc (.slice none 0 0), .sc (.slice none 0 0), .sc (.slice none 0 0), .sc (.slice none 0 0), int 0]]⟩), (4, ⟨119, 11, true, true, v14, [y1_1.map int]⟩), (8, ⟨47, 8, true, true, v32, (a1.Ents.map GEnt.av).set (Int.toNat a2) [int x33.Now, boo x33.Closed, .sl 9 v35 0 x33.Pools.length, .sl 10 v37 0 x33.Bal.length, .sl 11 v39 0 x33.Rolls.length, .sl 12 v41 0 x33.Prices.length, .sl 13 v43 0 x33.Down.length, lst 8 GEnt.av x33.Ahead]⟩), (9, ⟨42, 4, true, true, v35, x33.Pools.map GPool.av⟩), (10, ⟨3, 1, true, true, v37, x33.Bal.map fI⟩), (11, ⟨54, 11, true, true, v39, x33.Rolls.map GRoll.av⟩), (12, ⟨3, 1, true, true, v41, x33.Prices.map fI⟩), (13, ⟨3, 1, true, true, v43, x33.Down.map fI⟩)]) (.cell rfl (.pt rfl rfl rfl) sh32 rfl .nil) (HK.le ⟨rfl, rfl, rfl, rfl, rfl, rfl, rfl, rfl, rfl, trivial⟩) ?_)
  exact ⟨(x33.Now, x33.Closed, x33.Ahead, x33.Pools, x33.Bal, x33.Rolls, x33.Prices, x33.Down), (v32, v35, v37, v39, v41, v43), rfl, rfl, rfl⟩
  rintro y _ ⟨⟨y2_2, y2_3, y2_9, y2_10, y2_11, y2_12, y2_13, y2_14⟩, ⟨w2_1, w2_4, w2_5, w2_6, w2_7, w2_8⟩, rfl, hc, rfl⟩
  replace h0 := p2_e h0
  replace h0 := p2_e h0
  replace h0 := p2_e h0
  replace h0 := p2_e h0
  replace h0 := p2_e h0
  replace h0 := p2_e h0
  replace h0 := p2_e h0
  subst hc
  obtain ⟨x44, e44, h0⟩ := bind_e h0
  refine sA 14 z32 fun v45 => ?_
  refine sS ⟨32, 10, true, true, v45, [[int a1.Master.Entities, int a1.Master.Periods, lst 1 fI a1.Master.Weights, lst 1 (fL 1 fI) a1.Master.Methods, lst 1 (fL 1 fI) a1.Master.Costs, .sl 8 w2_1 0 a1.Ents.length, lst 8 GReceipt.av a1.Receipts, lst 9 GSale.av a1.Sales, lst 6 GTransit.av a1.Transits, int a1.Done]]⟩ sh32 ?_
  refine tr tbk 2 (.mk ?_)
  refine c_drawE [0, 1, 0, 7, 15, 31, 0, 0, 128, 511, 1023] (rl [(0, [14]), (1, [14]), (3, [8]), (4, [8]), (5, [8]), (7, [4]), (9, [11])] []) (rl [(10, [])] [4, 8, 11, 14]) (rl [(10, false)] true) [0, 1, 2, 3, 4, 5, 6, 7, 8, 9, 10] mixed (by kernel_rfl) ?_; intro K hK
  refine eF fo32_1 ?_
  refine eL sh27 ?_
  refine eM ?_
  refine de_pure rfl rfl rfl rfl (fun H hH => yv_ixO rfl Tryz.underlying27 sh47 rfl rfl ((hH _ (by decide)).trans rfl) rfl rfl (Eq.symm rfl) len_ov e44) ?_
  refine eF fo47_4 (hr := set_get e44) ?_
  refine eL sh45 (hr := set_get e44) ?_
  refine eM ?_
  obtain ⟨p46, h0⟩ := asrt_e h0
  refine de_pure rfl rfl rfl rfl (fun H hH => yv_ldARw rfl sh119 rfl ((hH _ (by decide)).trans rfl) rfl rfl p46) ?_
  obtain ⟨x47, e47, h0⟩ := bind_e h0
  refine eP (fun H hH => yv_callP rfl rfl (.cons rfl .nil) cal81 (CvL.refl _) (d_ref14_Roll_c e47)) ?_
  obtain ⟨x48, e48, h0⟩ := bind_e h0
  refine de_pure rfl rfl rfl rfl (fun H hH => yv_ixO rfl Tryz.underlying45 sh54 rfl rfl ((hH _ (by decide)).trans rfl) rfl rfl (Eq.symm rfl) (List.length_map _) e48) ?_
  obtain ⟨x49, e49, h0⟩ := bnd_e h0
  have fx49 := ix_set e48 e49; have lx49 := len_setV e49 (rfl : y2_12.length = y2_12.length)
  refine de_eff0 rfl rfl rfl rfl (Yield.weak (yl_ob (ob' := (⟨54, 11, true, true, w2_6, x49.map GRoll.av⟩ : AObj)) (yl_store rfl sh54 rfl rfl rfl rfl rfl (ix_get e48) rfl rfl rfl) (ob_eq (map_setV e49))) (fun _ h => h) (fun _ _ => trivial)) (by rintro _ _ ⟨rfl, rfl⟩; exact trivial) ?_; rintro _ _ ⟨rfl, rfl⟩
  refine de_nil (hK _ ?_)
  refine tc tbk 3 (.mk ?_)
  refine sS ⟨32, 10, true, true, v7, [[int a1.Master.Entities, int a1.Master.Periods, lst 1 fI a1.Master.Weights, lst 1 (fL 1 fI) a1.Master.Methods, lst 1 (fL 1 fI) a1.Master.Costs, .sl 8 w2_1 0 a1.Ents.length, lst 8 GReceipt.av a1.Receipts, lst 9 GSale.av a1.Sales, lst 6 GTransit.av a1.Transits, int a1.Done]]⟩ sh32 ?_
  refine tr tbk 2 (.mk ?_)
  obtain rfl := nxt_e h0
  refine wR hret (rC sh32 (rT .nil)) ?_
  exact CvL.tup (.cons (CvL.agg (.cons (.refl _) (.cons (.refl _) (.cons (.refl _) (.cons (.refl _) (.cons (.refl _) (.cons (cv_ov rfl rfl rfl rfl rfl (Eq.symm rfl) e44 (cvl_to (.cons (.refl _) (.cons (.refl _) (.cons (cv_lst rfl rfl rfl rfl rfl (Eq.symm rfl)) (.cons (cv_lst rfl rfl rfl rfl rfl (Eq.symm rfl)) (.cons (cv_lst rfl rfl rfl rfl rfl (Eq.symm lx49)) (.cons (cv_lst rfl rfl rfl rfl rfl (Eq.symm rfl)) (.cons (cv_lst rfl rfl rfl rfl rfl (Eq.symm rfl)) (.cons (.refl _) .nil)))))))) (GEnt.av_eq _))) (.cons (.refl _) (.cons (.refl _) (.cons (.refl _) (.cons (.refl _) .nil))))))))))) (.cons (.refl _) .nil))
  replace h0 := ct h0
  refine tc tbk 4 (.mk ?_)
  refine sS ⟨32, 10, true, true, v7, [(GState.av a1)]⟩ sh32 ?_
  refine tr tbk 2 (.mk ?_)
  obtain rfl := nxt_e h0
  refine wR hret (rC sh32 (rT .nil)) ?_
  exact .refl _
def d_ref15_Do (n : Nat) (a1 : GState) (a2 : GOp) : Option (GState × Int) :=
bnd (decide (a2.Kind ≠ 1)) fun x6 =>
cond x6 (some ((a1 : GState), (1 : Int))) ((d_ref14_Ready a1 a2.E a2.Item).bind fun x7 =>
bnd (decide (x7 ≠ 0)) fun x8 =>
cond x8 (some ((a1 : GState), (x7 : Int))) (bnd (decide ((a1.Receipts.length : Int) ≥ 40)) fun x9 =>
cond x9 (some ((a1 : GState), (6 : Int))) ((d_ref14_Bring n a1 a2.E a2.Item a2.Loc (⟨a2.Qty, a2.Amount, 0⟩ : GLayer)).bind fun x10 =>
bnd (decide (x10.2.2.2 ≠ 0)) fun x12 =>
cond x12 (some ((a1 : GState), (x10.2.2.2 : Int))) (bnd (w64 (0 - a2.Amount)) fun x13 =>
(d_ref14_Post n x10.1 a2.E ([(⟨0, x10.2.1⟩ : GLine), (⟨6, x10.2.2.1⟩ : GLine), (⟨1, x13⟩ : GLine)] : List GLine)).bind fun x14 =>
bnd (decide (x14.2 ≠ 0)) fun x15 =>
cond x15 (some ((a1 : GState), (x14.2 : Int))) ((d_ref14_Turn n x14.1 a2.E a2.Item (⟨0, x10.2.1, 0, 0, 0, 0, 0, 0, 0, 0, 0⟩ : GRoll)).bind fun x16 =>
bnd (decide (x16.2 ≠ 0)) fun x17 =>
cond x17 (some ((a1 : GState), (x16.2 : Int))) (asrt (x16.1.Receipts.length ≤ 68719476736) <|
bnd (x16.1.Receipts ++ ([(⟨a2.E, a2.Item, a2.Loc, a2.Qty, a2.Amount, a2.Qty, a2.Amount, 0⟩ : GReceipt)] : List GReceipt)) fun x20 =>
asrt (x20.length ≤ 68719476736) <|
some (((⟨x16.1.Master, x16.1.Ents, x20, x16.1.Sales, x16.1.Transits, x16.1.Done⟩ : GState) : GState), (0 : Int))))))))
theorem d_ref15_Do_c {n : Nat} {a1 : GState} {a2 : GOp} {r : GState × Int} (h0 : d_ref15_Do n a1 a2 = some r) : PP Tryz.prog 16 [.agg (GState.av a1), .agg (GOp.av a2)] (fun y => y = .tup [.agg (GState.av r.1), int r.2]) := by
  unfold d_ref15_Do at h0
  refine pp_of_pc (R0 := fun y H => Cv (frzH H) y (.tup [.agg (GState.av r.1), int r.2])) ?_ (fun y H hc => ⟨_, rfl, .tup (pvl2 ((fun (a : GState) => PV.agg (GState.pvc a)) (r.1)) (pvI (r.2))), hc⟩)
  refine pcw (c := _) Tryz.func16 rfl rfl ?_; intro Q hret hnorm
  refine tc tbk 2 (.mk ?_)
  refine sB 1 fun v3 => ?_
  refine sB 2 fun v4 => ?_
  refine sA 3 z32 fun v5 => ?_
  refine tr tbk 7 (.mk ?_)
  refine nb tbk h0 fun x6 h0 => ?_
  refine tr tbk 1 (.mk ?_)
  cases x6
  replace h0 := cf h0
  refine tc tbk 10 (.mk ?_)
  obtain ⟨x7, e7, h0⟩ := bind_e h0
  refine sC cal36 (d_ref14_Ready_c e7) ?_
  refine tr tbk 5 (.mk ?_)
  refine nb tbk h0 fun x8 h0 => ?_
  refine tr tbk 1 (.mk ?_)
  cases x8
  replace h0 := cf h0
  refine tc tbk 7 (.mk ?_)
  refine sY (yv_len_sl rfl Tryz.underlying28 rfl (lst_len _)) ?_
  refine nb tbk h0 fun x9 h0 => ?_
  refine tr tbk 1 (.mk ?_)
  cases x9
  replace h0 := cf h0
  refine tc tbk 16 (.mk ?_)
  obtain ⟨x10, e10, h0⟩ := bind_e h0
  refine sC cal37 (d_ref14_Bring_c e10) ?_
  refine tr tbk 5 (.mk ?_)
  refine sA 4 z32 fun v11 => ?_
  refine sS ⟨32, 10, true, true, v11, [(GState.av x10.1)]⟩ sh32 ?_
  refine tr tbk 8 (.mk ?_)
  refine nb tbk h0 fun x12 h0 => ?_
  refine tr tbk 1 (.mk ?_)
  cases x12
  replace h0 := cf h0
  refine tc tbk 13 (.mk ?_)
  refine ni tbk h0 fun x13 h0 => ?_
  refine tr tbk 1 (.mk ?_)
  refine sY (yv_to (y := lst 2 GLine.av ([(⟨0, x10.2.1⟩ : GLine), (⟨6, x10.2.2.1⟩ : GLine), (⟨1, x13⟩ : GLine)] : List GLine)) (yv_buildSlice (ps := [(0, _), (1, _), (2, _)]) (rows := [[int 0, int x10.2.1], [int 6, int x10.2.2.1], [int 1, int x13]]) rfl Tryz.underlying82 bz81 (.cons rfl (.cons rfl (.cons rfl .nil))) (by kernel_rfl) rfl rfl rfl) rfl) ?_
  obtain ⟨x14, e14, h0⟩ := bind_e h0
  refine sC cal38 (d_ref14_Post_c e14) ?_
  refine tr tbk 3 (.mk ?_)
  refine sS ⟨32, 10, true, true, v11, [(GState.av x14.1)]⟩ sh32 ?_
  refine tr tbk 6 (.mk ?_)
  refine nb tbk h0 fun x15 h0 => ?_
  refine tr tbk 1 (.mk ?_)
  cases x15
  replace h0 := cf h0
  refine tc tbk 10 (.mk ?_)
  refine sY (yv_build (cs := [int 0, int x10.2.1, int 0, int 0, int 0, int 0, int 0, int 0, int 0, int 0, int 0]) (ps := [(1, _)]) rfl pl54 z54 rfl (.cons rfl .nil) (by kernel_rfl)) ?_
  obtain ⟨x16, e16, h0⟩ := bind_e h0
  refine sC cal39 (d_ref14_Turn_c e16) ?_
  refine tr tbk 3 (.mk ?_)
  refine sS ⟨32, 10, true, true, v11, [(GState.av x16.1)]⟩ sh32 ?_
  refine tr tbk 6 (.mk ?_)
  refine nb tbk h0 fun x17 h0 => ?_
  refine tr tbk 1 (.mk ?_)
  cases x17
  replace h0 := cf h0
  refine tc tbk 3 (.mk ?_)
  refine c_drawE [0, 1, 3, 0, 8, 0, 32, 0, 128, 0, 512, 0, 2048, 0, 8192, 0, 32768, 131064, 262136, 524287, 1048575, 2097151] (rl [(0, [4]), (1, [4]), (3, [2]), (4, [2]), (5, [2]), (6, [2]), (7, [2]), (8, [2]), (9, [2]), (10, [2]), (11, [2]), (12, [2]), (13, [2]), (14, [2]), (15, [2]), (16, [2]), (20, [4])] []) (rl [(2, [2]), (19, []), (21, [])] [2, 4]) (rl [(2, false), (19, false), (21, false)] true) [0, 1, 3, 4, 5, 6, 7, 8, 9, 10, 11, 12, 13, 14, 15, 16, 17, 18, 2, 19, 20, 21] mixed (by kernel_rfl) ?_; intro K hK
  refine eF fo32_2 ?_
  refine eL sh28 ?_
  refine eF fo38_1 ?_
  refine eL sh3 ?_
  refine eF fo38_2 ?_
  refine eL sh3 ?_
  refine eF fo38_3 ?_
  refine eL sh3 ?_
  refine eF fo38_5 ?_
  refine eL sh3 ?_
  refine eF fo38_6 ?_
  refine eL sh3 ?_
  refine eF fo38_5 ?_
  refine eL sh3 ?_
  refine eF fo38_6 ?_
  refine eL sh3 ?_
  refine eP (fun H hH => yv_build (cs := [int a2.E, int a2.Item, int a2.Loc, int a2.Qty, int a2.Amount, int a2.Qty, int a2.Amount, int 0]) (ps := [(0, _), (1, _), (2, _), (3, _), (4, _), (5, _), (6, _)]) rfl pl85 z85 rfl (.cons rfl (.cons rfl (.cons rfl (.cons rfl (.cons rfl (.cons rfl (.cons rfl .nil))))))) (by kernel_rfl)) ?_
  refine eP (fun H hH => yv_to (y := lst 8 GReceipt.av ([(⟨a2.E, a2.Item, a2.Loc, a2.Qty, a2.Amount, a2.Qty, a2.Amount, 0⟩ : GReceipt)] : List GReceipt)) (yv_buildSlice (ps := [(0, _)]) (rows := [[int a2.E, int a2.Item, int a2.Loc, int a2.Qty, int a2.Amount, int a2.Qty, int a2.Amount, int 0]]) rfl Tryz.underlying28 bz85 (.cons rfl .nil) (by kernel_rfl) rfl rfl rfl) rfl) ?_
  obtain ⟨p18, h0⟩ := asrt_e h0
  refine de_eff rfl rfl rfl rfl (yl_app0T (g := GReceipt.av) (m := x16.1.Receipts) 5 rfl Tryz.underlying28 bz85 by85 rfl rfl rfl rfl (.refl _) (fun _ => rfl) p18) (by rintro _ _ ⟨v19, rfl, rfl⟩; exact ⟨rfl, trivial⟩) ?_; rintro _ _ ⟨v19, rfl, rfl⟩
  obtain ⟨x20, e20, h0⟩ := bnd_e h0
  obtain ⟨p21, h0⟩ := asrt_e h0
  refine de_eff rfl rfl rfl rfl (yl_appT (g := GReceipt.av) (l := x16.1.Receipts) (m := ([(⟨a2.E, a2.Item, a2.Loc, a2.Qty, a2.Amount, a2.Qty, a2.Amount, 0⟩ : GReceipt)] : List GReceipt)) .any rfl Tryz.underlying28 bz85 by85 rfl rfl rfl rfl rfl rfl rfl rfl rfl rfl (Eq.symm rfl) (.refl _) (fun _ => rfl) e20 p21) (by rintro _ _ ⟨v22, -, rfl, rfl⟩; exact trivial) ?_; rintro _ _ ⟨v22, -, rfl, rfl⟩
  refine eF fo32_2 ?_
  refine de_eff0 rfl rfl rfl rfl (Yield.weak (yl_ob (ob' := (⟨32, 10, true, true, v11, [[int x16.1.Master.Entities, int x16.1.Master.Periods, lst 1 fI x16.1.Master.Weights, lst 1 (fL 1 fI) x16.1.Master.Methods, lst 1 (fL 1 fI) x16.1.Master.Costs, lst 8 GEnt.av x16.1.Ents, .sl 5 v22 0 x20.length, lst 9 GSale.av x16.1.Sales, lst 6 GTransit.av x16.1.Transits, int x16.1.Done]]⟩ : AObj)) (yl_store rfl sh28 rfl rfl rfl rfl rfl rfl rfl rfl rfl) rfl) (fun _ h => h) (fun _ _ => trivial)) (by rintro _ _ ⟨rfl, rfl⟩; exact trivial) ?_; rintro _ _ ⟨rfl, rfl⟩
  refine de_nil (hK _ ?_)
  refine tc tbk 3 (.mk ?_)
  refine sS ⟨32, 10, true, true, v5, [[int x16.1.Master.Entities, int x16.1.Master.Periods, lst 1 fI x16.1.Master.Weights, lst 1 (fL 1 fI) x16.1.Master.Methods, lst 1 (fL 1 fI) x16.1.Master.Costs, lst 8 GEnt.av x16.1.Ents, .sl 5 v22 0 x20.length, lst 9 GSale.av x16.1.Sales, lst 6 GTransit.av x16.1.Transits, int x16.1.Done]]⟩ sh32 ?_
  refine tr tbk 2 (.mk ?_)
  obtain rfl := nxt_e h0
  refine wR hret (rC sh32 (rT .nil)) ?_
  exact CvL.tup (.cons (CvL.agg (.cons (.refl _) (.cons (.refl _) (.cons (.refl _) (.cons (.refl _) (.cons (.refl _) (.cons (.refl _) (.cons (cv_lst rfl rfl rfl rfl rfl (Eq.symm rfl)) (.cons (.refl _) (.cons (.refl _) (.cons (.refl _) .nil))))))))))) (.cons (.refl _) .nil))
  replace h0 := ct h0
  refine tc tbk 5 (.mk ?_)
  refine sS ⟨32, 10, true, true, v5, [(GState.av a1)]⟩ sh32 ?_
  refine tr tbk 2 (.mk ?_)
  obtain rfl := nxt_e h0
  refine wR hret (rC sh32 (rT .nil)) ?_
  exact .refl _
  replace h0 := ct h0
  refine tc tbk 5 (.mk ?_)
  refine sS ⟨32, 10, true, true, v5, [(GState.av a1)]⟩ sh32 ?_
  refine tr tbk 2 (.mk ?_)
  obtain rfl := nxt_e h0
  refine wR hret (rC sh32 (rT .nil)) ?_
  exact .refl _
  replace h0 := ct h0
  refine tc tbk 5 (.mk ?_)
  refine sS ⟨32, 10, true, true, v5, [(GState.av a1)]⟩ sh32 ?_
  refine tr tbk 2 (.mk ?_)
  obtain rfl := nxt_e h0
  refine wR hret (rC sh32 (rT .nil)) ?_
  exact .refl _
  replace h0 := ct h0
  refine tc tbk 4 (.mk ?_)
  refine sS ⟨32, 10, true, true, v5, [(GState.av a1)]⟩ sh32 ?_
  refine tr tbk 2 (.mk ?_)
  obtain rfl := nxt_e h0
  refine wR hret (rC sh32 (rT .nil)) ?_
  exact .refl _
  replace h0 := ct h0
  refine tc tbk 5 (.mk ?_)
  refine sS ⟨32, 10, true, true, v5, [(GState.av a1)]⟩ sh32 ?_
  refine tr tbk 2 (.mk ?_)
  obtain rfl := nxt_e h0
  refine wR hret (rC sh32 (rT .nil)) ?_
  exact .refl _
  replace h0 := ct h0
  refine tc tbk 4 (.mk ?_)
  refine sS ⟨32, 10, true, true, v5, [(GState.av a1)]⟩ sh32 ?_
  refine tr tbk 2 (.mk ?_)
  obtain rfl := nxt_e h0
  refine wR hret (rC sh32 (rT .nil)) ?_
  exact .refl _
def d_law20_stocked (n : Nat) (a1 : Int) (a2 : Int) (a3 : Int) : Option (GState) :=
(d_law20_start n).bind fun x5 =>
(d_ref15_Do n x5 (⟨1, 0, a1, 0, 0, a2, a3, 0, []⟩ : GOp)).bind fun x6 =>
some ((x6.1 : GState))
theorem d_law20_stocked_c {n : Nat} {a1 : Int} {a2 : Int} {a3 : Int} {r : GState} (h0 : d_law20_stocked n a1 a2 a3 = some r) : PP Tryz.prog 18 [int a1, int a2, int a3] (fun y => y = .agg (GState.av r)) := by
  unfold d_law20_stocked at h0
  refine pp_of_pc (R0 := fun y H => Cv (frzH H) y (.agg (GState.av r))) ?_ (fun y H hc => ⟨_, rfl, (fun (a : GState) => PV.agg (GState.pvc a)) r, hc⟩)
  refine pcw (c := _) Tryz.func18 rfl rfl ?_; intro Q hret hnorm
  refine tc tbk 2 (.mk ?_)
  refine sA 1 z32 fun v4 => ?_
  refine tr tbk 3 (.mk ?_)
  obtain ⟨x5, e5, h0⟩ := bind_e h0
  refine sC cal42 (d_law20_start_c e5) ?_
  refine tr tbk 3 (.mk ?_)
  refine sY (yv_build (cs := [int 1, int 0, int a1, int 0, int 0, int a2, int a3, int 0, .sc (.slice none 0 0)]) (ps := [(0, _), (2, _), (5, _), (6, _)]) rfl pl38 z38 rfl (.cons rfl (.cons rfl (.cons rfl (.cons rfl .nil)))) (by kernel_rfl)) ?_
  obtain ⟨x6, e6, h0⟩ := bind_e h0
  refine sY (yv_callP rfl rfl (.cons rfl (.cons rfl .nil)) cal16 (.cons (.refl _) (.cons (CvL.agg (.cons (.refl _) (.cons (.refl _) (.cons (.refl _) (.cons (.refl _) (.cons (.refl _) (.cons (.refl _) (.cons (.refl _) (.cons (.refl _) (.cons (.nil _) .nil)))))))))) .nil)) (d_ref15_Do_c e6)) ?_
  refine tr tbk 3 (.mk ?_)
  refine sA 2 z32 fun v7 => ?_
  refine sS ⟨32, 10, true, true, v7, [(GState.av x6.1)]⟩ sh32 ?_
  refine tr tbk 5 (.mk ?_)
  refine sS ⟨32, 10, true, true, v4, [(GState.av x6.1)]⟩ sh32 ?_
  refine tr tbk 1 (.mk ?_)
  obtain rfl := nxt_e h0
  refine wR hret (rC sh32 .nil) ?_
  exact .refl _
def d_stock_is (a1 : GState) (a2 : Int) (a3 : Int) : Option (Bool) :=
(show Option (Bool) from
bnd (decide (a2 < 0)) fun x6 =>
cond x6 (some (true : Bool)) (bnd (decide (a2 ≥ (a1.Ents.length : Int))) fun x7 =>
cond x7 (some (true : Bool)) (bnd (decide (a3 < 0)) fun x8 =>
cond x8 (some (true : Bool)) (bnd (decide (a3 ≥ (a1.Master.Weights.length : Int))) fun x9 =>
some (x9 : Bool))))).bind <| fun y0_1 =>
cond y0_1 (some ((false : Bool))) ((ix a1.Ents a2).bind fun x10 =>
(show Option (Bool) from
bnd (w64 ((a1.Master.Weights.length : Int) * 2)) fun x13 =>
bnd (decide ((x10.Pools.length : Int) ≥ x13)) fun x14 =>
cond x14 (bnd (decide ((x10.Rolls.length : Int) ≥ (a1.Master.Weights.length : Int))) fun x15 =>
cond x15 (bnd (decide (a2 < (a1.Master.Methods.length : Int))) fun x16 =>
cond x16 (bnd (decide (a2 < (a1.Master.Costs.length : Int))) fun x17 =>
cond x17 ((ix a1.Master.Methods a2).bind fun x18 =>
bnd (decide ((x18.length : Int) ≥ (a1.Master.Weights.length : Int))) fun x19 =>
cond x19 ((ix a1.Master.Costs a2).bind fun x20 =>
bnd (decide ((x20.length : Int) ≥ (a1.Master.Weights.length : Int))) fun x21 =>
some (x21 : Bool)) (some (false : Bool))) (some (false : Bool))) (some (false : Bool))) (some (false : Bool))) (some (false : Bool))).bind <| fun y1_1 =>
some ((y1_1 : Bool)))
theorem d_stock_is_c {a1 : GState} {a2 : Int} {a3 : Int} {r : Bool} (h0 : d_stock_is a1 a2 a3 = some r) : PP Tryz.prog 52 [.agg (GState.av a1), int a2, int a3] (fun y => y = boo r) := by
  unfold d_stock_is at h0
  refine pp_of_pc (R0 := fun y H => Cv (frzH H) y (boo r)) ?_ (fun y H hc => ⟨_, rfl, pvB r, hc⟩)
  refine pcw (c := _) Tryz.func52 rfl rfl ?_; intro Q hret hnorm
  refine tc tbk 2 (.mk ?_)
  refine sB 1 fun v4 => ?_
  refine tr tbk 4 (.mk ?_)
  refine jn h0 [1, 3, 6] [1] (fun (a : Bool) (k : Unit) => [(29, boo a)]) (fun a k => []) ⟨fun j5 h1 => ?_, ?_⟩
  refine tc tbk 2 (.mk ?_)
  refine nb tbk h1 fun x6 h1 => ?_
  refine tr tbk 1 (.mk ?_)
  cases x6
  replace h1 := cf h1
  refine tr tbk 3 (.mk ?_)
  refine sY (yv_len_sl rfl Tryz.underlying27 rfl (lst_len _)) ?_
  refine nb tbk h1 fun x7 h1 => ?_
  refine tr tbk 2 (.mk ?_)
  cases x7
  replace h1 := cf h1
  refine tr tbk 1 (.mk ?_)
  refine nb tbk h1 fun x8 h1 => ?_
  refine tr tbk 2 (.mk ?_)
  cases x8
  replace h1 := cf h1
  refine tr tbk 4 (.mk ?_)
  refine sY (yv_len_sl rfl Tryz.underlying23 rfl (lst_len _)) ?_
  refine nb tbk h1 fun x9 h1 => ?_
  refine tr tbk 2 (.mk ?_)
  exact lf h1 () leA
  replace h1 := ct h1
  refine tr tbk 8 (.mk ?_)
  exact lf h1 () leA
  replace h1 := ct h1
  refine tr tbk 12 (.mk ?_)
  exact lf h1 () leA
  replace h1 := ct h1
  refine tr tbk 19 (.mk ?_)
  exact lf h1 () leA
  rintro y0_1 _ h0
  cases y0_1
  replace h0 := cf h0
  refine tc tbk 3 (.mk ?_)
  refine c_drawE [0, 1, 0, 7, 15, 0, 32, 96, 224, 0, 543, 2047] (rl [(0, [1]), (1, [1]), (5, [1]), (6, [1]), (7, [1])] []) (fun i => [1]) (rl [(9, false), (10, false)] true) [0, 1, 2, 3, 4, 5, 6, 7, 8, 9, 10, 11] mixed (by kernel_rfl) ?_; intro K hK
  refine eF fo32_1 ?_
  refine eL sh27 ?_
  refine eM ?_
  obtain ⟨x10, e10, h0⟩ := bind_e h0
  refine eP (fun H hH => yv_to (y := .pp [int x10.Now, boo x10.Closed, lst 4 GPool.av x10.Pools, lst 1 fI x10.Bal, lst 11 GRoll.av x10.Rolls, lst 1 fI x10.Prices, lst 1 fI x10.Down, lst 8 GEnt.av x10.Ahead]) (yv_ixT rfl Tryz.underlying27 sh47 rfl rfl e10) (congrArg AV.pp (GEnt.av_eq x10))) ?_
  refine eP (fun H hH => yv_load rfl sh47 rfl (.pp _) rfl) ?_
  refine eF fo32_0 ?_
  refine eF fo26_2 ?_
  refine eL sh23 ?_
  refine eP (fun H hH => yv_len_sl rfl Tryz.underlying23 rfl (lst_len _)) ?_
  refine de_eff rfl rfl rfl rfl (yl_alloc 2 .any rfl z47 rfl) (by rintro _ _ ⟨v11, -, rfl, rfl⟩; exact ⟨rfl, trivial⟩) ?_; rintro _ _ ⟨v11, -, rfl, rfl⟩
  refine de_eff0 rfl rfl rfl rfl (Yield.weak (yl_ob (ob' := (⟨47, 8, true, true, v11, [[int x10.Now, boo x10.Closed, lst 4 GPool.av x10.Pools, lst 1 fI x10.Bal, lst 11 GRoll.av x10.Rolls, lst 1 fI x10.Prices, lst 1 fI x10.Down, lst 8 GEnt.av x10.Ahead]]⟩ : AObj)) (yl_store rfl sh47 rfl rfl rfl rfl rfl rfl rfl rfl rfl) rfl) (fun _ h => h) (fun _ _ => trivial)) (by rintro _ _ ⟨rfl, rfl⟩; exact ⟨rfl, trivial⟩) ?_; rintro _ _ ⟨rfl, rfl⟩
  refine eA ?_
  refine de_nil (hK _ ?_)
  refine tc tbk 1 (.mk ?_)
  refine jn h0 [] [] (fun (a : Bool) (k : Unit) => [(6, boo a)]) (fun a k => []) ⟨fun j12 h1 => ?_, ?_⟩
  refine tc tbk 3 (.mk ?_)
  refine sY (yv_len_sl rfl Tryz.underlying44 rfl (lst_len _)) ?_
  refine tr tbk 1 (.mk ?_)
  refine ni tbk h1 fun x13 h1 => ?_
  refine nb tbk h1 fun x14 h1 => ?_
  refine tr tbk 1 (.mk ?_)
  cases x14
  replace h1 := cf h1
  refine tr tbk 46 (.mk ?_)
  exact lf h1 () leA
  replace h1 := ct h1
  refine tr tbk 2 (.mk ?_)
  refine sY (yv_len_sl rfl Tryz.underlying45 rfl (lst_len _)) ?_
  refine tr tbk 1 (.mk ?_)
  refine nb tbk h1 fun x15 h1 => ?_
  refine tr tbk 2 (.mk ?_)
  cases x15
  replace h1 := cf h1
  refine tr tbk 39 (.mk ?_)
  exact lf h1 () leA
  replace h1 := ct h1
  refine tr tbk 4 (.mk ?_)
  refine sY (yv_len_sl rfl Tryz.underlying24 rfl (lst_len _)) ?_
  refine nb tbk h1 fun x16 h1 => ?_
  refine tr tbk 2 (.mk ?_)
  cases x16
  replace h1 := cf h1
  refine tr tbk 31 (.mk ?_)
  exact lf h1 () leA
  replace h1 := ct h1
  refine tr tbk 4 (.mk ?_)
  refine sY (yv_len_sl rfl Tryz.underlying24 rfl (lst_len _)) ?_
  refine nb tbk h1 fun x17 h1 => ?_
  refine tr tbk 2 (.mk ?_)
  cases x17
  replace h1 := cf h1
  refine tr tbk 23 (.mk ?_)
  exact lf h1 () leA
  replace h1 := ct h1
  refine tr tbk 4 (.mk ?_)
  obtain ⟨x18, e18, h1⟩ := bind_e h1
  refine sY (yv_ixT rfl Tryz.underlying24 sh23 rfl rfl e18) ?_
  refine tr tbk 1 (.mk ?_)
  refine sY (yv_len_sl rfl Tryz.underlying23 rfl (lst_len _)) ?_
  refine tr tbk 1 (.mk ?_)
  refine nb tbk h1 fun x19 h1 => ?_
  refine tr tbk 2 (.mk ?_)
  cases x19
  replace h1 := cf h1
  refine tr tbk 12 (.mk ?_)
  exact lf h1 () leA
  replace h1 := ct h1
  refine tr tbk 4 (.mk ?_)
  obtain ⟨x20, e20, h1⟩ := bind_e h1
  refine sY (yv_ixT rfl Tryz.underlying24 sh23 rfl rfl e20) ?_
  refine tr tbk 1 (.mk ?_)
  refine sY (yv_len_sl rfl Tryz.underlying23 rfl (lst_len _)) ?_
  refine tr tbk 1 (.mk ?_)
  refine nb tbk h1 fun x21 h1 => ?_
  refine tr tbk 3 (.mk ?_)
  exact lf h1 () leA
  rintro y1_1 _ h0
  obtain rfl := nxt_e h0
  refine wR hret (rT .nil) ?_
  exact .refl _
  replace h0 := ct h0
  refine tc tbk 5 (.mk ?_)
  obtain rfl := nxt_e h0
  refine wR hret (rT .nil) ?_
  exact .refl _
def d_stock_Ready (a1 : GState) (a2 : Int) (a3 : Int) : Option (Int) :=
(d_stock_is a1 a2 a3).bind fun x5 =>
bnd (!x5) fun x6 =>
cond x6 (some ((4 : Int))) ((ix a1.Ents a2).bind fun x7 =>
bnd x7.Closed fun x8 =>
cond x8 (some ((7 : Int))) (some ((0 : Int))))
theorem d_stock_Ready_c {a1 : GState} {a2 : Int} {a3 : Int} {r : Int} (h0 : d_stock_Ready a1 a2 a3 = some r) : PP Tryz.prog 26 [.agg (GState.av a1), int a2, int a3] (fun y => y = int r) := by
  unfold d_stock_Ready at h0
  refine pp_of_pc (R0 := fun y H => Cv (frzH H) y (int r)) ?_ (fun y H hc => ⟨_, rfl, pvI r, hc⟩)
  refine pcw (c := _) Tryz.func26 rfl rfl ?_; intro Q hret hnorm
  refine tc tbk 2 (.mk ?_)
  refine sB 1 fun v4 => ?_
  refine tr tbk 9 (.mk ?_)
  obtain ⟨x5, e5, h0⟩ := bind_e h0
  refine sC cal52 (d_stock_is_c e5) ?_
  refine nb tbk h0 fun x6 h0 => ?_
  refine tr tbk 2 (.mk ?_)
  cases x6
  replace h0 := cf h0
  refine tc tbk 6 (.mk ?_)
  obtain ⟨x7, e7, h0⟩ := bind_e h0
  refine sY (yv_to (y := .pp [int x7.Now, boo x7.Closed, lst 4 GPool.av x7.Pools, lst 1 fI x7.Bal, lst 11 GRoll.av x7.Rolls, lst 1 fI x7.Prices, lst 1 fI x7.Down, lst 8 GEnt.av x7.Ahead]) (yv_ixT rfl Tryz.underlying27 sh47 rfl rfl e7) (congrArg AV.pp (GEnt.av_eq x7))) ?_
  refine tr tbk 4 (.mk ?_)
  obtain ⟨x8, e8, h0⟩ := bnd_e h0
  refine c_as (t := 13) (boo x8) rfl (congrArg boo e8) ?_
  refine c_as (t := 19) (boo x8) rfl (congrArg boo e8) ?_
  cases x8
  replace h0 := cf h0
  refine tc tbk 7 (.mk ?_)
  obtain rfl := nxt_e h0
  refine wR hret (rT .nil) ?_
  exact .refl _
  replace h0 := ct h0
  refine tc tbk 5 (.mk ?_)
  obtain rfl := nxt_e h0
  refine wR hret (rT .nil) ?_
  exact .refl _
  replace h0 := ct h0
  refine tc tbk 5 (.mk ?_)
  obtain rfl := nxt_e h0
  refine wR hret (rT .nil) ?_
  exact .refl _
def d_money_in (a1 : Int) : Option (Bool) :=
(show Option (Bool) from
bnd (decide (a1 ≥ (-288230376151711744))) fun x3 =>
cond x3 (bnd (decide (a1 ≤ 288230376151711744)) fun x4 =>
some (x4 : Bool)) (some (false : Bool))).bind <| fun y0_1 =>
some ((y0_1 : Bool))
theorem d_money_in_c {a1 : Int} {r : Bool} (h0 : d_money_in a1 = some r) : PP Tryz.prog 138 [int a1] (fun y => y = boo r) := by
  unfold d_money_in at h0
  refine pp_of_pc (R0 := fun y H => Cv (frzH H) y (boo r)) ?_ (fun y H hc => ⟨_, rfl, pvB r, hc⟩)
  refine pcw (c := _) Tryz.func138 rfl rfl ?_; intro Q hret hnorm
  refine tc tbk 5 (.mk ?_)
  refine jn h0 [] [] (fun (a : Bool) (k : Unit) => [(2, boo a)]) (fun a k => []) ⟨fun j2 h1 => ?_, ?_⟩
  refine tc tbk 2 (.mk ?_)
  refine nb tbk h1 fun x3 h1 => ?_
  refine tr tbk 1 (.mk ?_)
  cases x3
  replace h1 := cf h1
  refine tr tbk 5 (.mk ?_)
  exact lf h1 () leA
  replace h1 := ct h1
  refine tr tbk 1 (.mk ?_)
  refine nb tbk h1 fun x4 h1 => ?_
  refine tr tbk 3 (.mk ?_)
  exact lf h1 () leA
  rintro y0_1 _ h0
  obtain rfl := nxt_e h0
  refine wR hret (rT .nil) ?_
  exact .refl _
def d_money_Wide (a1 : Int) (a2 : Int) : Option (Int × Int) :=
bnd (wu64 a1) fun x3 =>
bnd (wu64 a2) fun x4 =>
bnd (x3.tmod 4294967296) fun x5 =>
bnd (x4.tmod 4294967296) fun x6 =>
bnd (wu64 (x5 * x6)) fun x7 =>
bnd (wu64 (x3.tdiv 4294967296)) fun x8 =>
bnd (x4.tmod 4294967296) fun x9 =>
bnd (wu64 (x8 * x9)) fun x10 =>
bnd (x3.tmod 4294967296) fun x11 =>
bnd (wu64 (x4.tdiv 4294967296)) fun x12 =>
bnd (wu64 (x11 * x12)) fun x13 =>
bnd (wu64 (x3.tdiv 4294967296)) fun x14 =>
bnd (wu64 (x4.tdiv 4294967296)) fun x15 =>
bnd (wu64 (x14 * x15)) fun x16 =>
bnd (wu64 (x7.tdiv 4294967296)) fun x18 =>
bnd (x10.tmod 4294967296) fun x19 =>
bnd (wu64 (x18 + x19)) fun x20 =>
bnd (x13.tmod 4294967296) fun x21 =>
bnd (wu64 (x20 + x21)) fun x22 =>
bnd (wu64 (x10.tdiv 4294967296)) fun x23 =>
bnd (wu64 (x16 + x23)) fun x24 =>
bnd (wu64 (x13.tdiv 4294967296)) fun x25 =>
bnd (wu64 (x24 + x25)) fun x26 =>
bnd (wu64 (x22.tdiv 4294967296)) fun x27 =>
bnd (wu64 (x26 + x27)) fun x28 =>
bnd (wu64 (x3 * x4)) fun x29 =>
some ((x28 : Int), (x29 : Int))
theorem d_money_Wide_c {a1 : Int} {a2 : Int} {r : Int × Int} (h0 : d_money_Wide a1 a2 = some r) : PP Tryz.prog 173 [int a1, int a2] (fun y => y = .tup [.sc (.int .u64 r.1), .sc (.int .u64 r.2)]) := by
  unfold d_money_Wide at h0
  refine pp_of_pc (R0 := fun y H => Cv (frzH H) y (.tup [.sc (.int .u64 r.1), .sc (.int .u64 r.2)])) ?_ (fun y H hc => ⟨_, rfl, .tup (pvl2 ((pvK .u64) (r.1)) ((pvK .u64) (r.2))), hc⟩)
  refine pcw (c := _) Tryz.func173 rfl rfl ?_; intro Q hret hnorm
  refine tc tbk 8 (.mk ?_)
  refine ni tbk h0 fun x3 h0 => ?_
  refine tr tbk 1 (.mk ?_)
  refine ni tbk h0 fun x4 h0 => ?_
  refine tr tbk 6 (.mk ?_)
  refine ni tbk h0 fun x5 h0 => ?_
  refine tr tbk 1 (.mk ?_)
  refine ni tbk h0 fun x6 h0 => ?_
  refine ni tbk h0 fun x7 h0 => ?_
  refine tr tbk 1 (.mk ?_)
  refine ni tbk h0 fun x8 h0 => ?_
  refine tr tbk 1 (.mk ?_)
  refine ni tbk h0 fun x9 h0 => ?_
  refine ni tbk h0 fun x10 h0 => ?_
  refine tr tbk 1 (.mk ?_)
  refine ni tbk h0 fun x11 h0 => ?_
  refine tr tbk 1 (.mk ?_)
  refine ni tbk h0 fun x12 h0 => ?_
  refine ni tbk h0 fun x13 h0 => ?_
  refine tr tbk 1 (.mk ?_)
  refine ni tbk h0 fun x14 h0 => ?_
  refine tr tbk 1 (.mk ?_)
  refine ni tbk h0 fun x15 h0 => ?_
  refine ni tbk h0 fun x16 h0 => ?_
  refine sY (yv_buildA (cs := [.sc (.int .u64 x7), .sc (.int .u64 x10), .sc (.int .u64 x13), .sc (.int .u64 x16)]) (ps := [(0, _), (1, _), (2, _), (3, _)]) rfl Tryz.underlying231 sh212 z231 rfl (.cons rfl (.cons rfl (.cons rfl (.cons rfl .nil)))) (by kernel_rfl)) ?_
  refine sA 1 z231 fun v17 => ?_
  refine sS ⟨231, 4, true, true, v17, [[.sc (.int .u64 x7), .sc (.int .u64 x10), .sc (.int .u64 x13), .sc (.int .u64 x16)]]⟩ sh231 ?_
  refine tr tbk 3 (.mk ?_)
  refine sY (yv_to (y := .pt 1 v17 0 0) (yv_indexAddrA rfl Tryz.underlying231 sh212 rfl rfl rfl rfl rfl (by decide)) rfl) ?_
  refine tr tbk 1 (.mk ?_)
  refine ni tbk h0 fun x18 h0 => ?_
  refine sY (yv_to (y := .pt 1 v17 0 1) (yv_indexAddrA rfl Tryz.underlying231 sh212 rfl rfl rfl rfl rfl (by decide)) rfl) ?_
  refine tr tbk 1 (.mk ?_)
  refine ni tbk h0 fun x19 h0 => ?_
  refine ni tbk h0 fun x20 h0 => ?_
  refine sY (yv_to (y := .pt 1 v17 0 2) (yv_indexAddrA rfl Tryz.underlying231 sh212 rfl rfl rfl rfl rfl (by decide)) rfl) ?_
  refine tr tbk 1 (.mk ?_)
  refine ni tbk h0 fun x21 h0 => ?_
  refine ni tbk h0 fun x22 h0 => ?_
  refine tr tbk 4 (.mk ?_)
  refine sY (yv_to (y := .pt 1 v17 0 3) (yv_indexAddrA rfl Tryz.underlying231 sh212 rfl rfl rfl rfl rfl (by decide)) rfl) ?_
  refine tr tbk 1 (.mk ?_)
  refine sY (yv_to (y := .pt 1 v17 0 1) (yv_indexAddrA rfl Tryz.underlying231 sh212 rfl rfl rfl rfl rfl (by decide)) rfl) ?_
  refine tr tbk 1 (.mk ?_)
  refine ni tbk h0 fun x23 h0 => ?_
  refine ni tbk h0 fun x24 h0 => ?_
  refine sY (yv_to (y := .pt 1 v17 0 2) (yv_indexAddrA rfl Tryz.underlying231 sh212 rfl rfl rfl rfl rfl (by decide)) rfl) ?_
  refine tr tbk 1 (.mk ?_)
  refine ni tbk h0 fun x25 h0 => ?_
  refine ni tbk h0 fun x26 h0 => ?_
  refine tr tbk 1 (.mk ?_)
  refine ni tbk h0 fun x27 h0 => ?_
  refine ni tbk h0 fun x28 h0 => ?_
  refine tr tbk 2 (.mk ?_)
  refine ni tbk h0 fun x29 h0 => ?_
  refine tr tbk 3 (.mk ?_)
  obtain rfl := nxt_e h0
  refine wR hret (rT (rT .nil)) ?_
  exact .refl _
def d_math_bits_Len64 (a1 : Int) : Option (Int) :=
bnd (decide (a1 ≥ 4294967296)) fun x2 =>
(show Option (Int × Int) from
cond x2 (bnd (a1.fdiv (2 ^ (min (32 : Int).toNat IntKind.u64.bits))) fun x4 =>
some ((x4 : Int), (32 : Int))) (some ((a1 : Int), (0 : Int)))).bind <| p2 fun (y0_1 : Int) (y0_2 : Int) =>
bnd (decide (y0_1 ≥ 65536)) fun x5 =>
(show Option (Int × Int) from
cond x5 (bnd (y0_1.fdiv (2 ^ (min (16 : Int).toNat IntKind.u64.bits))) fun x7 =>
bnd (w64 (y0_2 + 16)) fun x8 =>
some ((x7 : Int), (x8 : Int))) (some ((y0_1 : Int), (y0_2 : Int)))).bind <| p2 fun (y1_1 : Int) (y1_2 : Int) =>
bnd (decide (y1_1 ≥ 256)) fun x9 =>
(show Option (Int × Int) from
cond x9 (bnd (y1_1.fdiv (2 ^ (min (8 : Int).toNat IntKind.u64.bits))) fun x11 =>
bnd (w64 (y1_2 + 8)) fun x12 =>
some ((x11 : Int), (x12 : Int))) (some ((y1_1 : Int), (y1_2 : Int)))).bind <| p2 fun (y2_1 : Int) (y2_2 : Int) =>
bnd (wu8 y2_1) fun x13 =>
(ix ([0, 1, 2, 2, 3, 3, 3, 3, 4, 4, 4, 4, 4, 4, 4, 4, 5, 5, 5, 5, 5, 5, 5, 5, 5, 5, 5, 5, 5, 5, 5, 5, 6, 6, 6, 6, 6, 6, 6, 6, 6, 6, 6, 6, 6, 6, 6, 6, 6, 6, 6, 6, 6, 6, 6, 6, 6, 6, 6, 6, 6, 6, 6, 6, 7, 7, 7, 7, 7, 7, 7, 7, 7, 7, 7, 7, 7, 7, 7, 7, 7, 7, 7, 7, 7, 7, 7, 7, 7, 7, 7, 7, 7, 7, 7, 7, 7, 7, 7, 7, 7, 7, 7, 7, 7, 7, 7, 7, 7, 7, 7, 7, 7, 7, 7, 7, 7, 7, 7, 7, 7, 7, 7, 7, 7, 7, 7, 7, 8, 8, 8, 8, 8, 8, 8, 8, 8, 8, 8, 8, 8, 8, 8, 8, 8, 8, 8, 8, 8, 8, 8, 8, 8, 8, 8, 8, 8, 8, 8, 8, 8, 8, 8, 8, 8, 8, 8, 8, 8, 8, 8, 8, 8, 8, 8, 8, 8, 8, 8, 8, 8, 8, 8, 8, 8, 8, 8, 8, 8, 8, 8, 8, 8, 8, 8, 8, 8, 8, 8, 8, 8, 8, 8, 8, 8, 8, 8, 8, 8, 8, 8, 8, 8, 8, 8, 8, 8, 8, 8, 8, 8, 8, 8, 8, 8, 8, 8, 8, 8, 8, 8, 8, 8, 8, 8, 8, 8, 8, 8, 8, 8, 8, 8, 8, 8, 8, 8, 8, 8, 8, 8, 8, 8, 8, 8, 8] : List UInt8) x13).bind fun x14 =>
bnd (w64 (x14.toNat : Int)) fun x15 =>
bnd (w64 (y2_2 + x15)) fun x16 =>
some ((x16 : Int))
theorem d_math_bits_Len64_c {a1 : Int} {r : Int} (h0 : d_math_bits_Len64 a1 = some r) : PP Tryz.prog 228 [.sc (.int .u64 a1)] (fun y => y = int r) := by
  unfold d_math_bits_Len64 at h0
  refine pp_of_pc (R0 := fun y H => Cv (frzH H) y (int r)) ?_ (fun y H hc => ⟨_, rfl, pvI r, hc⟩)
  refine pcw (c := _) Tryz.func228 rfl rfl ?_; intro Q hret hnorm
  refine tc tbk 8 (.mk ?_)
  refine nb tbk h0 fun x2 h0 => ?_
  refine tr tbk 1 (.mk ?_)
  refine jn h0 [] [] (fun (a : Int × Int) (k : Unit) => [(0, .sc (.int .u64 a.1)), (2, int a.2)]) (fun a k => []) ⟨fun j3 h1 => ?_, ?_⟩
  cases x2
  replace h1 := cf h1
  refine tc tbk 2 (.mk ?_)
  exact lf h1 () leA
  replace h1 := ct h1
  refine tc tbk 4 (.mk ?_)
  refine ni tbk h1 fun x4 h1 => ?_
  refine tr tbk 5 (.mk ?_)
  exact lf h1 () leA
  rintro ⟨y0_1, y0_2⟩ _ h0
  replace h0 := p2_e h0
  refine tc tbk 4 (.mk ?_)
  refine nb tbk h0 fun x5 h0 => ?_
  refine tr tbk 1 (.mk ?_)
  refine jn h0 [] [] (fun (a : Int × Int) (k : Unit) => [(0, .sc (.int .u64 a.1)), (2, int a.2)]) (fun a k => []) ⟨fun j6 h1 => ?_, ?_⟩
  cases x5
  replace h1 := cf h1
  refine tc tbk 2 (.mk ?_)
  exact lf h1 () leA
  replace h1 := ct h1
  refine tc tbk 4 (.mk ?_)
  refine ni tbk h1 fun x7 h1 => ?_
  refine tr tbk 4 (.mk ?_)
  refine ni tbk h1 fun x8 h1 => ?_
  refine tr tbk 2 (.mk ?_)
  exact lf h1 () leA
  rintro ⟨y1_1, y1_2⟩ _ h0
  replace h0 := p2_e h0
  refine tc tbk 4 (.mk ?_)
  refine nb tbk h0 fun x9 h0 => ?_
  refine tr tbk 1 (.mk ?_)
  refine jn h0 [] [] (fun (a : Int × Int) (k : Unit) => [(0, .sc (.int .u64 a.1)), (2, int a.2)]) (fun a k => []) ⟨fun j10 h1 => ?_, ?_⟩
  cases x9
  replace h1 := cf h1
  refine tc tbk 2 (.mk ?_)
  exact lf h1 () leA
  replace h1 := ct h1
  refine tc tbk 4 (.mk ?_)
  refine ni tbk h1 fun x11 h1 => ?_
  refine tr tbk 4 (.mk ?_)
  refine ni tbk h1 fun x12 h1 => ?_
  refine tr tbk 2 (.mk ?_)
  exact lf h1 () leA
  rintro ⟨y2_1, y2_2⟩ _ h0
  replace h0 := p2_e h0
  refine tc tbk 4 (.mk ?_)
  refine ni tbk h0 fun x13 h0 => ?_
  obtain ⟨x14, e14, h0⟩ := bind_e h0
  refine sY (yv_index_str rfl Tryz.underlying9 rfl rfl (ix_e e14).1 (ix_e e14).2) ?_
  refine ni tbk h0 fun x15 h0 => ?_
  refine ni tbk h0 fun x16 h0 => ?_
  refine tr tbk 2 (.mk ?_)
  obtain rfl := nxt_e h0
  refine wR hret (rT .nil) ?_
  exact .refl _
def d_math_bits_LeadingZeros64 (a1 : Int) : Option (Int) :=
(d_math_bits_Len64 a1).bind fun x2 =>
bnd (w64 (64 - x2)) fun x3 =>
some ((x3 : Int))
theorem d_math_bits_LeadingZeros64_c {a1 : Int} {r : Int} (h0 : d_math_bits_LeadingZeros64 a1 = some r) : PP Tryz.prog 202 [.sc (.int .u64 a1)] (fun y => y = int r) := by
  unfold d_math_bits_LeadingZeros64 at h0
  refine pp_of_pc (R0 := fun y H => Cv (frzH H) y (int r)) ?_ (fun y H hc => ⟨_, rfl, pvI r, hc⟩)
  refine pcw (c := _) Tryz.func202 rfl rfl ?_; intro Q hret hnorm
  refine tc tbk 7 (.mk ?_)
  obtain ⟨x2, e2, h0⟩ := bind_e h0
  refine sC cal228 (d_math_bits_Len64_c e2) ?_
  refine ni tbk h0 fun x3 h0 => ?_
  refine tr tbk 2 (.mk ?_)
  obtain rfl := nxt_e h0
  refine wR hret (rT .nil) ?_
  exact .refl _
def d_math_bits_Div64_L0 (x11 : Int) (x12 : Int) (x21 : Int) : Nat → Int → Int → Option (Int)
  | 0, _, _ => none
  | n + 1, y0_1, y0_2 =>
    (show Option (Bool) from
    bnd (decide (y0_1 ≥ 4294967296)) fun x29 =>
    cond x29 (some (true : Bool)) (bnd (wu64 (y0_1 * x12)) fun x30 =>
    bnd (wu64 (4294967296 * y0_2)) fun x31 =>
    bnd (wu64 (x31 + x21)) fun x32 =>
    bnd (decide (x30 > x32)) fun x33 =>
    some (x33 : Bool))).bind <| fun y1_1 =>
    cond y1_1 (bnd (wu64 (y0_1 - 1)) fun x34 =>
    bnd (wu64 (y0_2 + x11)) fun x35 =>
    bnd (decide (x35 ≥ 4294967296)) fun x36 =>
    cond x36 (some (x34 : Int)) (d_math_bits_Div64_L0 x11 x12 x21 n (x34 : Int) (x35 : Int))) (some (y0_1 : Int))
def d_math_bits_Div64_L1 (x11 : Int) (x12 : Int) (x22 : Int) : Nat → Int → Int → Option (Int)
  | 0, _, _ => none
  | n + 1, y3_1, y3_2 =>
    (show Option (Bool) from
    bnd (decide (y3_2 ≥ 4294967296)) fun x47 =>
    cond x47 (some (true : Bool)) (bnd (wu64 (y3_2 * x12)) fun x48 =>
    bnd (wu64 (4294967296 * y3_1)) fun x49 =>
    bnd (wu64 (x49 + x22)) fun x50 =>
    bnd (decide (x48 > x50)) fun x51 =>
    some (x51 : Bool))).bind <| fun y4_1 =>
    cond y4_1 (bnd (wu64 (y3_2 - 1)) fun x52 =>
    bnd (wu64 (y3_1 + x11)) fun x53 =>
    bnd (decide (x53 ≥ 4294967296)) fun x54 =>
    cond x54 (some (x52 : Int)) (d_math_bits_Div64_L1 x11 x12 x22 n (x53 : Int) (x52 : Int))) (some (y3_2 : Int))
def d_math_bits_Div64 (n : Nat) (a1 : Int) (a2 : Int) (a3 : Int) : Option (Int × Int) :=
bnd (decide (a3 = 0)) fun x4 =>
cond x4 (none) (bnd (decide (a3 ≤ a1)) fun x5 =>
cond x5 (none) (bnd (decide (a1 = 0)) fun x6 =>
cond x6 (asrt (a3 ≠ 0) <|
bnd (wu64 (a2.tdiv a3)) fun x64 =>
asrt (a3 ≠ 0) <|
bnd (a2.tmod a3) fun x66 =>
some ((x64 : Int), (x66 : Int))) ((d_math_bits_LeadingZeros64 a3).bind fun x7 =>
bnd (wu64 x7) fun x8 =>
asrt ((0 : Int) ≤ x8) <|
bnd (wu64 (a3 * (2 ^ (min x8.toNat IntKind.u64.bits)))) fun x10 =>
bnd (x10.fdiv (2 ^ (min (32 : Int).toNat IntKind.u64.bits))) fun x11 =>
bnd (wu64 ((BitVec.ofInt IntKind.u64.bits x10 &&& BitVec.ofInt IntKind.u64.bits 4294967295).toNat : Int)) fun x12 =>
asrt ((0 : Int) ≤ x8) <|
bnd (wu64 (a1 * (2 ^ (min x8.toNat IntKind.u64.bits)))) fun x14 =>
bnd (wu64 (64 - x8)) fun x15 =>
asrt ((0 : Int) ≤ x15) <|
bnd (a2.fdiv (2 ^ (min x15.toNat IntKind.u64.bits))) fun x17 =>
bnd (wu64 ((BitVec.ofInt IntKind.u64.bits x14 ||| BitVec.ofInt IntKind.u64.bits x17).toNat : Int)) fun x18 =>
asrt ((0 : Int) ≤ x8) <|
bnd (wu64 (a2 * (2 ^ (min x8.toNat IntKind.u64.bits)))) fun x20 =>
bnd (x20.fdiv (2 ^ (min (32 : Int).toNat IntKind.u64.bits))) fun x21 =>
bnd (wu64 ((BitVec.ofInt IntKind.u64.bits x20 &&& BitVec.ofInt IntKind.u64.bits 4294967295).toNat : Int)) fun x22 =>
asrt (x11 ≠ 0) <|
bnd (wu64 (x18.tdiv x11)) fun x24 =>
bnd (wu64 (x24 * x11)) fun x25 =>
bnd (wu64 (x18 - x25)) fun x26 =>
(show Option (Int) from
d_math_bits_Div64_L0 x11 x12 x21 n (x24 : Int) (x26 : Int)).bind <| fun y2_1 =>
bnd (wu64 (x18 * 4294967296)) fun x37 =>
bnd (wu64 (x37 + x21)) fun x38 =>
bnd (wu64 (y2_1 * x10)) fun x39 =>
bnd (wu64 (x38 - x39)) fun x40 =>
asrt (x11 ≠ 0) <|
bnd (wu64 (x40.tdiv x11)) fun x42 =>
bnd (wu64 (x42 * x11)) fun x43 =>
bnd (wu64 (x40 - x43)) fun x44 =>
(show Option (Int) from
d_math_bits_Div64_L1 x11 x12 x22 n (x44 : Int) (x42 : Int)).bind <| fun y5_1 =>
bnd (wu64 (y2_1 * 4294967296)) fun x55 =>
bnd (wu64 (x55 + y5_1)) fun x56 =>
bnd (wu64 (x40 * 4294967296)) fun x57 =>
bnd (wu64 (x57 + x22)) fun x58 =>
bnd (wu64 (y5_1 * x10)) fun x59 =>
bnd (wu64 (x58 - x59)) fun x60 =>
asrt ((0 : Int) ≤ x8) <|
bnd (x60.fdiv (2 ^ (min x8.toNat IntKind.u64.bits))) fun x62 =>
some ((x56 : Int), (x62 : Int)))))
theorem d_math_bits_Div64_c {n : Nat} {a1 : Int} {a2 : Int} {a3 : Int} {r : Int × Int} (h0 : d_math_bits_Div64 n a1 a2 a3 = some r) : PP Tryz.prog 174 [.sc (.int .u64 a1), .sc (.int .u64 a2), .sc (.int .u64 a3)] (fun y => y = .tup [.sc (.int .u64 r.1), .sc (.int .u64 r.2)]) := by
  unfold d_math_bits_Div64 at h0
  refine pp_of_pc (R0 := fun y H => Cv (frzH H) y (.tup [.sc (.int .u64 r.1), .sc (.int .u64 r.2)])) ?_ (fun y H hc => ⟨_, rfl, .tup (pvl2 ((pvK .u64) (r.1)) ((pvK .u64) (r.2))), hc⟩)
  refine pcw (c := _) Tryz.func174 rfl rfl ?_; intro Q hret hnorm
  refine tc tbk 9 (.mk ?_)
  refine nb tbk h0 fun x4 h0 => ?_
  refine tr tbk 1 (.mk ?_)
  cases x4
  replace h0 := cf h0
  refine tc tbk 7 (.mk ?_)
  refine nb tbk h0 fun x5 h0 => ?_
  refine tr tbk 1 (.mk ?_)
  cases x5
  replace h0 := cf h0
  refine tc tbk 6 (.mk ?_)
  refine nb tbk h0 fun x6 h0 => ?_
  refine tr tbk 1 (.mk ?_)
  cases x6
  replace h0 := cf h0
  refine tc tbk 5 (.mk ?_)
  obtain ⟨x7, e7, h0⟩ := bind_e h0
  refine sC cal202 (d_math_bits_LeadingZeros64_c e7) ?_
  refine ni tbk h0 fun x8 h0 => ?_
  refine tr tbk 6 (.mk ?_)
  obtain ⟨p9, h0⟩ := asrt_e h0
  obtain ⟨x10, e10, h0⟩ := bnd_e h0
  refine sY (yv_shl rfl rfl rfl p9 e10) ?_
  refine tr tbk 5 (.mk ?_)
  refine ni tbk h0 fun x11 h0 => ?_
  refine tr tbk 5 (.mk ?_)
  obtain ⟨x12, e12, h0⟩ := bnd_e h0
  refine sY (yv_and rfl rfl rfl e12) ?_
  refine tr tbk 6 (.mk ?_)
  obtain ⟨p13, h0⟩ := asrt_e h0
  obtain ⟨x14, e14, h0⟩ := bnd_e h0
  refine sY (yv_shl rfl rfl rfl p13 e14) ?_
  refine tr tbk 2 (.mk ?_)
  refine ni tbk h0 fun x15 h0 => ?_
  obtain ⟨p16, h0⟩ := asrt_e h0
  obtain ⟨x17, e17, h0⟩ := bnd_e h0
  refine sY (yv_shr rfl rfl rfl p16 e17) ?_
  obtain ⟨x18, e18, h0⟩ := bnd_e h0
  refine sY (yv_or rfl rfl rfl e18) ?_
  refine tr tbk 6 (.mk ?_)
  obtain ⟨p19, h0⟩ := asrt_e h0
  obtain ⟨x20, e20, h0⟩ := bnd_e h0
  refine sY (yv_shl rfl rfl rfl p19 e20) ?_
  refine tr tbk 5 (.mk ?_)
  refine ni tbk h0 fun x21 h0 => ?_
  refine tr tbk 5 (.mk ?_)
  obtain ⟨x22, e22, h0⟩ := bnd_e h0
  refine sY (yv_and rfl rfl rfl e22) ?_
  refine tr tbk 6 (.mk ?_)
  obtain ⟨p23, h0⟩ := asrt_e h0
  obtain ⟨x24, e24, h0⟩ := bnd_e h0
  refine sY (yv_quo rfl rfl rfl p23 e24) ?_
  refine tr tbk 7 (.mk ?_)
  refine ni tbk h0 fun x25 h0 => ?_
  refine ni tbk h0 fun x26 h0 => ?_
  refine tr tbk 3 (.mk ?_)
  refine jn h0 [2, 6, 7, 8, 9, 10, 11, 13, 14] [] (fun (a : Int) (k : Unit) => [(15, .sc (.int .u64 a))]) (fun a k => []) ⟨fun j27 h1 => ?_, ?_⟩
  refine tc tbk 1 (.mk ?_)
  refine lp (fun n (a : Int × Int) => d_math_bits_Div64_L0 x11 x12 x21 n a.1 a.2) ((x24 : Int), (x26 : Int)) () h1 [2, 6, 7, 8, 9, 10, 11, 13, 14] [] (fun (a : Int × Int) (k : Unit) => [(15, .sc (.int .u64 a.1)), (16, .sc (.int .u64 a.2))]) (fun a k => []) (fun _ => rfl) ⟨leA, ?_⟩
  rintro n ⟨y0_1, y0_2⟩ _ hm h1
  replace h1 : d_math_bits_Div64_L0 x11 x12 x21 (n + 1) y0_1 y0_2 = some _ := h1
  rw [d_math_bits_Div64_L0] at h1
  refine tc tbk 2 (.mk ?_)
  refine jn h1 [2, 6, 7, 8, 9, 10, 11, 13, 14, 15, 16] [] (fun (a : Bool) (k : Unit) => [(78, boo a)]) (fun a k => []) ⟨fun j28 h2 => ?_, ?_⟩
  refine tc tbk 2 (.mk ?_)
  refine nb tbk h2 fun x29 h2 => ?_
  refine tr tbk 1 (.mk ?_)
  cases x29
  replace h2 := cf h2
  refine tr tbk 2 (.mk ?_)
  refine ni tbk h2 fun x30 h2 => ?_
  refine tr tbk 1 (.mk ?_)
  refine ni tbk h2 fun x31 h2 => ?_
  refine tr tbk 1 (.mk ?_)
  refine ni tbk h2 fun x32 h2 => ?_
  refine nb tbk h2 fun x33 h2 => ?_
  refine tr tbk 2 (.mk ?_)
  exact lf h2 () leA
  replace h2 := ct h2
  refine tr tbk 10 (.mk ?_)
  exact lf h2 () leA
  rintro y1_1 _ h1
  cases y1_1
  replace h1 := cf h1
  refine tc tbk 2 (.mk ?_)
  exact lf h1 () leA
  replace h1 := ct h1
  refine tc tbk 6 (.mk ?_)
  refine ni tbk h1 fun x34 h1 => ?_
  refine tr tbk 6 (.mk ?_)
  refine ni tbk h1 fun x35 h1 => ?_
  refine tr tbk 5 (.mk ?_)
  refine nb tbk h1 fun x36 h1 => ?_
  refine tr tbk 1 (.mk ?_)
  cases x36
  replace h1 := cf h1
  refine tc tbk 3 (.mk ?_)
  exact bk (x34, x35) () h1 leA
  replace h1 := ct h1
  refine tc tbk 2 (.mk ?_)
  exact lf h1 () leA
  rintro y2_1 _ h0
  refine tc tbk 3 (.mk ?_)
  refine ni tbk h0 fun x37 h0 => ?_
  refine tr tbk 1 (.mk ?_)
  refine ni tbk h0 fun x38 h0 => ?_
  refine tr tbk 2 (.mk ?_)
  refine ni tbk h0 fun x39 h0 => ?_
  refine ni tbk h0 fun x40 h0 => ?_
  refine tr tbk 6 (.mk ?_)
  obtain ⟨p41, h0⟩ := asrt_e h0
  obtain ⟨x42, e42, h0⟩ := bnd_e h0
  refine sY (yv_quo rfl rfl rfl p41 e42) ?_
  refine tr tbk 7 (.mk ?_)
  refine ni tbk h0 fun x43 h0 => ?_
  refine ni tbk h0 fun x44 h0 => ?_
  refine tr tbk 3 (.mk ?_)
  refine jn h0 [2, 6, 7, 8, 14, 15, 17] [] (fun (a : Int) (k : Unit) => [(18, .sc (.int .u64 a))]) (fun a k => []) ⟨fun j45 h1 => ?_, ?_⟩
  refine tc tbk 1 (.mk ?_)
  refine lp (fun n (a : Int × Int) => d_math_bits_Div64_L1 x11 x12 x22 n a.1 a.2) ((x44 : Int), (x42 : Int)) () h1 [2, 6, 7, 8, 9, 10, 14, 15, 17] [] (fun (a : Int × Int) (k : Unit) => [(16, .sc (.int .u64 a.1)), (18, .sc (.int .u64 a.2))]) (fun a k => []) (fun _ => rfl) ⟨leA, ?_⟩
  rintro n ⟨y3_1, y3_2⟩ _ hm h1
  replace h1 : d_math_bits_Div64_L1 x11 x12 x22 (n + 1) y3_1 y3_2 = some _ := h1
  rw [d_math_bits_Div64_L1] at h1
  refine tc tbk 2 (.mk ?_)
  refine jn h1 [2, 6, 7, 8, 9, 10, 14, 15, 16, 17, 18] [] (fun (a : Bool) (k : Unit) => [(113, boo a)]) (fun a k => []) ⟨fun j46 h2 => ?_, ?_⟩
  refine tc tbk 2 (.mk ?_)
  refine nb tbk h2 fun x47 h2 => ?_
  refine tr tbk 1 (.mk ?_)
  cases x47
  replace h2 := cf h2
  refine tr tbk 2 (.mk ?_)
  refine ni tbk h2 fun x48 h2 => ?_
  refine tr tbk 1 (.mk ?_)
  refine ni tbk h2 fun x49 h2 => ?_
  refine tr tbk 1 (.mk ?_)
  refine ni tbk h2 fun x50 h2 => ?_
  refine nb tbk h2 fun x51 h2 => ?_
  refine tr tbk 2 (.mk ?_)
  exact lf h2 () leA
  replace h2 := ct h2
  refine tr tbk 10 (.mk ?_)
  exact lf h2 () leA
  rintro y4_1 _ h1
  cases y4_1
  replace h1 := cf h1
  refine tc tbk 2 (.mk ?_)
  exact lf h1 () leA
  replace h1 := ct h1
  refine tc tbk 6 (.mk ?_)
  refine ni tbk h1 fun x52 h1 => ?_
  refine tr tbk 6 (.mk ?_)
  refine ni tbk h1 fun x53 h1 => ?_
  refine tr tbk 5 (.mk ?_)
  refine nb tbk h1 fun x54 h1 => ?_
  refine tr tbk 1 (.mk ?_)
  cases x54
  replace h1 := cf h1
  refine tc tbk 3 (.mk ?_)
  exact bk (x53, x52) () h1 leA
  replace h1 := ct h1
  refine tc tbk 2 (.mk ?_)
  exact lf h1 () leA
  rintro y5_1 _ h0
  refine tc tbk 3 (.mk ?_)
  refine ni tbk h0 fun x55 h0 => ?_
  refine tr tbk 1 (.mk ?_)
  refine ni tbk h0 fun x56 h0 => ?_
  refine tr tbk 1 (.mk ?_)
  refine ni tbk h0 fun x57 h0 => ?_
  refine tr tbk 1 (.mk ?_)
  refine ni tbk h0 fun x58 h0 => ?_
  refine tr tbk 2 (.mk ?_)
  refine ni tbk h0 fun x59 h0 => ?_
  refine ni tbk h0 fun x60 h0 => ?_
  refine tr tbk 1 (.mk ?_)
  obtain ⟨p61, h0⟩ := asrt_e h0
  obtain ⟨x62, e62, h0⟩ := bnd_e h0
  refine sY (yv_shr rfl rfl rfl p61 e62) ?_
  refine tr tbk 3 (.mk ?_)
  obtain rfl := nxt_e h0
  refine wR hret (rT (rT .nil)) ?_
  exact .refl _
  replace h0 := ct h0
  refine tc tbk 2 (.mk ?_)
  refine c_drawE [0, 0, 3, 0, 0, 24, 7, 127] (fun i => []) (fun i => []) (fun i => true) [0, 1, 2, 3, 4, 5, 6, 7] mixed (by kernel_rfl) ?_; intro K hK
  iterate 2 refine eM ?_
  obtain ⟨p63, h0⟩ := asrt_e h0
  obtain ⟨x64, e64, h0⟩ := bnd_e h0
  refine eP (fun H hH => yv_quo rfl rfl rfl p63 e64) ?_
  iterate 2 refine eM ?_
  obtain ⟨p65, h0⟩ := asrt_e h0
  obtain ⟨x66, e66, h0⟩ := bnd_e h0
  refine eP (fun H hH => yv_rem rfl rfl rfl p65 e66) ?_
  iterate 2 refine eA ?_
  refine de_nil (hK _ ?_)
  obtain rfl := nxt_e h0
  refine wR hret (rT (rT .nil)) ?_
  exact .refl _
  replace h0 := ct h0
  refine tc tbk 1 (.mk ?_)
  cases h0
  replace h0 := ct h0
  refine tc tbk 1 (.mk ?_)
  cases h0
def d_money_MulDiv (n : Nat) (a1 : Int) (a2 : Int) (a3 : Int) : Option (Int × Int × Int) :=
(show Option (Bool) from
bnd (decide (a1 < 0)) fun x5 =>
cond x5 (some (true : Bool)) (bnd (decide (a2 < 0)) fun x6 =>
cond x6 (some (true : Bool)) (bnd (decide (a3 < 1)) fun x7 =>
some (x7 : Bool)))).bind <| fun y0_1 =>
cond y0_1 (some ((0 : Int), (0 : Int), (1 : Int))) ((d_money_Wide a1 a2).bind fun x8 =>
bnd (wu64 a3) fun x9 =>
bnd (decide (x8.1 ≥ x9)) fun x10 =>
cond x10 (some ((0 : Int), (0 : Int), (2 : Int))) (bnd (wu64 a3) fun x11 =>
(d_math_bits_Div64 n x8.1 x8.2 x11).bind fun x12 =>
bnd (decide (x12.1 > 288230376151711744)) fun x13 =>
cond x13 (some ((0 : Int), (0 : Int), (2 : Int))) (bnd (w64 x12.1) fun x14 =>
bnd (w64 x12.2) fun x15 =>
some ((x14 : Int), (x15 : Int), (0 : Int)))))
theorem d_money_MulDiv_c {n : Nat} {a1 : Int} {a2 : Int} {a3 : Int} {r : Int × Int × Int} (h0 : d_money_MulDiv n a1 a2 a3 = some r) : PP Tryz.prog 118 [int a1, int a2, int a3] (fun y => y = .tup [int r.1, int r.2.1, int r.2.2]) := by
  unfold d_money_MulDiv at h0
  refine pp_of_pc (R0 := fun y H => Cv (frzH H) y (.tup [int r.1, int r.2.1, int r.2.2])) ?_ (fun y H hc => ⟨_, rfl, .tup (pvl3 (pvI (r.1)) (pvI (r.2.1)) (pvI (r.2.2))), hc⟩)
  refine pcw (c := _) Tryz.func118 rfl rfl ?_; intro Q hret hnorm
  refine tc tbk 8 (.mk ?_)
  refine jn h0 [0, 1, 2, 6, 7, 8] [] (fun (a : Bool) (k : Unit) => [(22, boo a)]) (fun a k => []) ⟨fun j4 h1 => ?_, ?_⟩
  refine tc tbk 2 (.mk ?_)
  refine nb tbk h1 fun x5 h1 => ?_
  refine tr tbk 1 (.mk ?_)
  cases x5
  replace h1 := cf h1
  refine tr tbk 1 (.mk ?_)
  refine nb tbk h1 fun x6 h1 => ?_
  refine tr tbk 2 (.mk ?_)
  cases x6
  replace h1 := cf h1
  refine tr tbk 1 (.mk ?_)
  refine nb tbk h1 fun x7 h1 => ?_
  refine tr tbk 2 (.mk ?_)
  exact lf h1 () leA
  replace h1 := ct h1
  refine tr tbk 4 (.mk ?_)
  exact lf h1 () leA
  replace h1 := ct h1
  refine tr tbk 8 (.mk ?_)
  exact lf h1 () leA
  rintro y0_1 _ h0
  cases y0_1
  replace h0 := cf h0
  refine tc tbk 6 (.mk ?_)
  obtain ⟨x8, e8, h0⟩ := bind_e h0
  refine sC cal173 (d_money_Wide_c e8) ?_
  refine tr tbk 11 (.mk ?_)
  refine ni tbk h0 fun x9 h0 => ?_
  refine nb tbk h0 fun x10 h0 => ?_
  refine tr tbk 1 (.mk ?_)
  cases x10
  replace h0 := cf h0
  refine tc tbk 7 (.mk ?_)
  refine ni tbk h0 fun x11 h0 => ?_
  obtain ⟨x12, e12, h0⟩ := bind_e h0
  refine sC cal174 (d_math_bits_Div64_c e12) ?_
  refine tr tbk 10 (.mk ?_)
  refine nb tbk h0 fun x13 h0 => ?_
  refine tr tbk 1 (.mk ?_)
  cases x13
  replace h0 := cf h0
  refine tc tbk 5 (.mk ?_)
  refine ni tbk h0 fun x14 h0 => ?_
  refine tr tbk 1 (.mk ?_)
  refine ni tbk h0 fun x15 h0 => ?_
  refine tr tbk 4 (.mk ?_)
  obtain rfl := nxt_e h0
  refine wR hret (rT (rT (rT .nil))) ?_
  exact .refl _
  replace h0 := ct h0
  refine tc tbk 7 (.mk ?_)
  obtain rfl := nxt_e h0
  refine wR hret (rT (rT (rT .nil))) ?_
  exact .refl _
  replace h0 := ct h0
  refine tc tbk 7 (.mk ?_)
  obtain rfl := nxt_e h0
  refine wR hret (rT (rT (rT .nil))) ?_
  exact .refl _
  replace h0 := ct h0
  refine tc tbk 7 (.mk ?_)
  obtain rfl := nxt_e h0
  refine wR hret (rT (rT (rT .nil))) ?_
  exact .refl _
def d_money_Part (n : Nat) (a1 : Int) (a2 : Int) (a3 : Int) : Option (Int) :=
(show Option (Bool) from
bnd (decide (a3 < 1)) fun x5 =>
cond x5 (some (true : Bool)) (bnd (decide (a2 < 0)) fun x6 =>
cond x6 (some (true : Bool)) (bnd (decide (a2 > a3)) fun x7 =>
cond x7 (some (true : Bool)) ((d_money_in a1).bind fun x8 =>
bnd (!x8) fun x9 =>
some (x9 : Bool))))).bind <| fun y0_1 =>
cond y0_1 (some ((0 : Int))) (bnd (decide (a2 = a3)) fun x10 =>
cond x10 (some ((a1 : Int))) (bnd (decide (a1 < 0)) fun x11 =>
cond x11 (bnd (w64 (0 - a1)) fun x13 =>
(d_money_MulDiv n x13 a2 a3).bind fun x14 =>
bnd (w64 (0 - x14.1)) fun x15 =>
some ((x15 : Int))) ((d_money_MulDiv n a1 a2 a3).bind fun x12 =>
some ((x12.1 : Int)))))
theorem d_money_Part_c {n : Nat} {a1 : Int} {a2 : Int} {a3 : Int} {r : Int} (h0 : d_money_Part n a1 a2 a3 = some r) : PP Tryz.prog 86 [int a1, int a2, int a3] (fun y => y = int r) := by
  unfold d_money_Part at h0
  refine pp_of_pc (R0 := fun y H => Cv (frzH H) y (int r)) ?_ (fun y H hc => ⟨_, rfl, pvI r, hc⟩)
  refine pcw (c := _) Tryz.func86 rfl rfl ?_; intro Q hret hnorm
  refine tc tbk 7 (.mk ?_)
  refine jn h0 [0, 1, 2, 6] [] (fun (a : Bool) (k : Unit) => [(13, boo a)]) (fun a k => []) ⟨fun j4 h1 => ?_, ?_⟩
  refine tc tbk 2 (.mk ?_)
  refine nb tbk h1 fun x5 h1 => ?_
  refine tr tbk 1 (.mk ?_)
  cases x5
  replace h1 := cf h1
  refine tr tbk 1 (.mk ?_)
  refine nb tbk h1 fun x6 h1 => ?_
  refine tr tbk 2 (.mk ?_)
  cases x6
  replace h1 := cf h1
  refine tr tbk 2 (.mk ?_)
  refine nb tbk h1 fun x7 h1 => ?_
  refine tr tbk 2 (.mk ?_)
  cases x7
  replace h1 := cf h1
  refine tr tbk 1 (.mk ?_)
  obtain ⟨x8, e8, h1⟩ := bind_e h1
  refine sC cal138 (d_money_in_c e8) ?_
  refine nb tbk h1 fun x9 h1 => ?_
  refine tr tbk 3 (.mk ?_)
  exact lf h1 () leA
  replace h1 := ct h1
  refine tr tbk 6 (.mk ?_)
  exact lf h1 () leA
  replace h1 := ct h1
  refine tr tbk 11 (.mk ?_)
  exact lf h1 () leA
  replace h1 := ct h1
  refine tr tbk 15 (.mk ?_)
  exact lf h1 () leA
  rintro y0_1 _ h0
  cases y0_1
  replace h0 := cf h0
  refine tc tbk 5 (.mk ?_)
  refine nb tbk h0 fun x10 h0 => ?_
  refine tr tbk 2 (.mk ?_)
  cases x10
  replace h0 := cf h0
  refine tc tbk 4 (.mk ?_)
  refine nb tbk h0 fun x11 h0 => ?_
  refine tr tbk 2 (.mk ?_)
  cases x11
  replace h0 := cf h0
  refine tc tbk 8 (.mk ?_)
  obtain ⟨x12, e12, h0⟩ := bind_e h0
  refine sC cal118 (d_money_MulDiv_c e12) ?_
  refine tr tbk 13 (.mk ?_)
  obtain rfl := nxt_e h0
  refine wR hret (rT .nil) ?_
  exact .refl _
  replace h0 := ct h0
  refine tc tbk 4 (.mk ?_)
  refine ni tbk h0 fun x13 h0 => ?_
  refine tr tbk 2 (.mk ?_)
  obtain ⟨x14, e14, h0⟩ := bind_e h0
  refine sC cal118 (d_money_MulDiv_c e14) ?_
  refine tr tbk 11 (.mk ?_)
  refine ni tbk h0 fun x15 h0 => ?_
  refine tr tbk 2 (.mk ?_)
  obtain rfl := nxt_e h0
  refine wR hret (rT .nil) ?_
  exact .refl _
  replace h0 := ct h0
  refine tc tbk 6 (.mk ?_)
  obtain rfl := nxt_e h0
  refine wR hret (rT .nil) ?_
  exact .refl _
  replace h0 := ct h0
  refine tc tbk 5 (.mk ?_)
  obtain rfl := nxt_e h0
  refine wR hret (rT .nil) ?_
  exact .refl _
def d_stock_in (a1 : Int) (a2 : Int) (a3 : Int) : Option (Bool) :=
(show Option (Bool) from
bnd (decide (a1 ≥ a2)) fun x5 =>
cond x5 (bnd (decide (a1 ≤ a3)) fun x6 =>
some (x6 : Bool)) (some (false : Bool))).bind <| fun y0_1 =>
some ((y0_1 : Bool))
theorem d_stock_in_c {a1 : Int} {a2 : Int} {a3 : Int} {r : Bool} (h0 : d_stock_in a1 a2 a3 = some r) : PP Tryz.prog 94 [int a1, int a2, int a3] (fun y => y = boo r) := by
  unfold d_stock_in at h0
  refine pp_of_pc (R0 := fun y H => Cv (frzH H) y (boo r)) ?_ (fun y H hc => ⟨_, rfl, pvB r, hc⟩)
  refine pcw (c := _) Tryz.func94 rfl rfl ?_; intro Q hret hnorm
  refine tc tbk 5 (.mk ?_)
  refine jn h0 [] [] (fun (a : Bool) (k : Unit) => [(6, boo a)]) (fun a k => []) ⟨fun j4 h1 => ?_, ?_⟩
  refine tc tbk 3 (.mk ?_)
  refine nb tbk h1 fun x5 h1 => ?_
  refine tr tbk 1 (.mk ?_)
  cases x5
  replace h1 := cf h1
  refine tr tbk 6 (.mk ?_)
  exact lf h1 () leA
  replace h1 := ct h1
  refine tr tbk 2 (.mk ?_)
  refine nb tbk h1 fun x6 h1 => ?_
  refine tr tbk 3 (.mk ?_)
  exact lf h1 () leA
  rintro y0_1 _ h0
  obtain rfl := nxt_e h0
  refine wR hret (rT .nil) ?_
  exact .refl _
def d_stock_place (a1 : GState) (a2 : Int) (a3 : Int) (a4 : Int) : Option (Int) :=
(show Option (Bool) from
(d_stock_is a1 a2 a3).bind fun x7 =>
bnd (!x7) fun x8 =>
cond x8 (some (true : Bool)) ((d_stock_in a4 0 1).bind fun x9 =>
bnd (!x9) fun x10 =>
some (x10 : Bool))).bind <| fun y0_1 =>
cond y0_1 (some (((-1) : Int))) (bnd (w64 (a3 * 2)) fun x11 =>
bnd (w64 (x11 + a4)) fun x12 =>
some ((x12 : Int)))
theorem d_stock_place_c {a1 : GState} {a2 : Int} {a3 : Int} {a4 : Int} {r : Int} (h0 : d_stock_place a1 a2 a3 a4 = some r) : PP Tryz.prog 46 [.agg (GState.av a1), int a2, int a3, int a4] (fun y => y = int r) := by
  unfold d_stock_place at h0
  refine pp_of_pc (R0 := fun y H => Cv (frzH H) y (int r)) ?_ (fun y H hc => ⟨_, rfl, pvI r, hc⟩)
  refine pcw (c := _) Tryz.func46 rfl rfl ?_; intro Q hret hnorm
  refine tc tbk 2 (.mk ?_)
  refine sB 1 fun v5 => ?_
  refine tr tbk 4 (.mk ?_)
  refine jn h0 [2, 3, 8] [] (fun (a : Bool) (k : Unit) => [(18, boo a)]) (fun a k => []) ⟨fun j6 h1 => ?_, ?_⟩
  refine tc tbk 4 (.mk ?_)
  obtain ⟨x7, e7, h1⟩ := bind_e h1
  refine sC cal52 (d_stock_is_c e7) ?_
  refine nb tbk h1 fun x8 h1 => ?_
  refine tr tbk 1 (.mk ?_)
  cases x8
  replace h1 := cf h1
  refine tr tbk 1 (.mk ?_)
  obtain ⟨x9, e9, h1⟩ := bind_e h1
  refine sC cal94 (d_stock_in_c e9) ?_
  refine nb tbk h1 fun x10 h1 => ?_
  refine tr tbk 2 (.mk ?_)
  exact lf h1 () leA
  replace h1 := ct h1
  refine tr tbk 5 (.mk ?_)
  exact lf h1 () leA
  rintro y0_1 _ h0
  cases y0_1
  replace h0 := cf h0
  refine tc tbk 5 (.mk ?_)
  refine ni tbk h0 fun x11 h0 => ?_
  refine tr tbk 1 (.mk ?_)
  refine ni tbk h0 fun x12 h0 => ?_
  refine tr tbk 2 (.mk ?_)
  obtain rfl := nxt_e h0
  refine wR hret (rT .nil) ?_
  exact .refl _
  replace h0 := ct h0
  refine tc tbk 5 (.mk ?_)
  obtain rfl := nxt_e h0
  refine wR hret (rT .nil) ?_
  exact .refl _
def d_pool_with (a1 : GPool) (a2 : List GLayer) : Option (GPool) :=
some (((⟨a2, a1.Pend⟩ : GPool) : GPool))
theorem d_pool_with_c {a1 : GPool} {a2 : List GLayer} {r : GPool} (h0 : d_pool_with a1 a2 = some r) : PP Tryz.prog 146 [.agg (GPool.av a1), lst 3 GLayer.av a2] (fun y => y = .agg (GPool.av r)) := by
  unfold d_pool_with at h0
  refine pp_of_pc (R0 := fun y H => Cv (frzH H) y (.agg (GPool.av r))) ?_ (fun y H hc => ⟨_, rfl, (fun (a : GPool) => PV.agg (GPool.pvc a)) r, hc⟩)
  refine pcw (c := _) Tryz.func146 rfl rfl ?_; intro Q hret hnorm
  refine tc tbk 2 (.mk ?_)
  refine sB 1 fun v3 => ?_
  refine sA 2 z42 fun v4 => ?_
  refine tr tbk 5 (.mk ?_)
  refine sS ⟨42, 4, true, true, v3, [[lst 3 GLayer.av a2, int a1.Pend.a0, int a1.Pend.a1, int a1.Pend.a2]]⟩ sh39 ?_
  refine tr tbk 4 (.mk ?_)
  refine sS ⟨42, 4, true, true, v4, [[lst 3 GLayer.av a2, int a1.Pend.a0, int a1.Pend.a1, int a1.Pend.a2]]⟩ sh42 ?_
  refine tr tbk 1 (.mk ?_)
  obtain rfl := nxt_e h0
  refine wR hret (rC sh42 .nil) ?_
  exact .refl _
def d_pool_own (a1 : GPool) : Option (GPool) :=
asrt (a1.Layers.length ≤ 68719476736) <|
(show Option ((Unit)) from
some ()).bind <| fun _ =>
some ((a1 : GPool))
theorem d_pool_own_c {a1 : GPool} {r : GPool} (h0 : d_pool_own a1 = some r) : PP Tryz.prog 96 [.agg (GPool.av a1)] (fun y => y = .agg (GPool.av r)) := by
  unfold d_pool_own at h0
  refine pp_of_pc (R0 := fun y H => Cv (frzH H) y (.agg (GPool.av r))) ?_ (fun y H hc => ⟨_, rfl, (fun (a : GPool) => PV.agg (GPool.pvc a)) r, hc⟩)
  refine pcw (c := _) Tryz.func96 rfl rfl ?_; intro Q hret hnorm
  refine tc tbk 2 (.mk ?_)
  refine sB 1 fun v2 => ?_
  refine sA 2 z42 fun v3 => ?_
  refine tr tbk 2 (.mk ?_)
  refine c_drawE [0, 0, 2, 6, 15, 31] (rl [(0, [1]), (1, [1]), (2, [1])] []) (rl [(4, []), (5, [])] [1]) (rl [(3, false), (4, false), (5, false)] true) [0, 1, 2, 3, 4, 5] mixed (by kernel_rfl) ?_; intro K hK
  refine eL sh42 ?_
  refine eF fo42_0 ?_
  refine eL sh39 ?_
  obtain ⟨p4, h0⟩ := asrt_e h0
  refine de_eff rfl rfl rfl rfl (yl_call rfl rfl (.cons rfl .nil) cal59 (pc_cv (clone59_c (id := 3) (l := a1.Layers) rfl p4) (.cons (.refl _) .nil))) (by rintro _ _ ⟨v5, rfl, rfl⟩; exact ⟨rfl, trivial⟩) ?_; rintro _ _ ⟨v5, rfl, rfl⟩
  obtain ⟨j6, h1, h0⟩ := bind_e h0
  refine de_eff (Out := fun y H' => (∃ (a : Unit) (k : Unit), a = j6 ∧ y = .agg [.sl 3 v5 0 a1.Layers.length, int a1.Pend.a0, int a1.Pend.a1, int a1.Pend.a2] ∧ H' = hk [(1, ⟨42, 4, true, true, v2, [[lst 3 GLayer.av a1.Layers, int a1.Pend.a0, int a1.Pend.a1, int a1.Pend.a2]]⟩), (2, ⟨42, 4, true, true, v3, [[.sc (.slice none 0 0), int 0, int 0, int 0]]⟩), (3, ⟨50, 3, true, true, v5, a1.Layers.map GLayer.av⟩)])) rfl rfl rfl rfl (yl_call rfl rfl (.cons rfl (.cons rfl .nil)) cal146 ?_) (by rintro y _ ⟨_, _, rfl, hc, rfl⟩ <;> exact trivial) ?_
  refine pcw (c := _) Tryz.func146 rfl rfl ?_; intro Q hret hnorm
  refine tc tbk 2 (.mk ?_)
  refine sB 4 fun v7 => ?_
  refine sA 5 z42 fun v8 => ?_
  refine tr tbk 5 (.mk ?_)
  refine sS ⟨42, 4, true, true, v7, [[.sl 3 v5 0 a1.Layers.length, int a1.Pend.a0, int a1.Pend.a1, int a1.Pend.a2]]⟩ sh39 ?_
  refine tr tbk 4 (.mk ?_)
  refine sS ⟨42, 4, true, true, v8, [[.sl 3 v5 0 a1.Layers.length, int a1.Pend.a0, int a1.Pend.a1, int a1.Pend.a2]]⟩ sh42 ?_
  refine tr tbk 1 (.mk ?_)
  obtain rfl := nxt_e h1
  refine w_ret (hret _ _ (hk [(1, ⟨42, 4, true, true, v2, [[lst 3 GLayer.av a1.Layers, int a1.Pend.a0, int a1.Pend.a1, int a1.Pend.a2]]⟩), (2, ⟨42, 4, true, true, v3, [[.sc (.slice none 0 0), int 0, int 0, int 0]]⟩), (3, ⟨50, 3, true, true, v5, a1.Layers.map GLayer.av⟩)]) (.cell rfl (.pt rfl rfl rfl) sh42 rfl .nil) (HK.le ⟨rfl, rfl, rfl, trivial⟩) ?_)
  exact ⟨(), (), rfl, rfl, rfl⟩
  rintro y _ ⟨_, _, rfl, hc, rfl⟩
  subst hc
  refine de_eff0 rfl rfl rfl rfl (Yield.weak (yl_ob (ob' := (⟨42, 4, true, true, v3, [[.sl 3 v5 0 a1.Layers.length, int a1.Pend.a0, int a1.Pend.a1, int a1.Pend.a2]]⟩ : AObj)) (yl_store rfl sh42 rfl rfl rfl rfl rfl rfl rfl rfl rfl) rfl) (fun _ h => h) (fun _ _ => trivial)) (by rintro _ _ ⟨rfl, rfl⟩; exact trivial) ?_; rintro _ _ ⟨rfl, rfl⟩
  refine de_nil (hK _ ?_)
  obtain rfl := nxt_e h0
  refine wR hret (rC sh42 .nil) ?_
  exact (CvL.agg (.cons (cv_lst rfl rfl rfl rfl rfl (Eq.symm rfl)) (.cons (.refl _) (.cons (.refl _) (.cons (.refl _) .nil)))))
def d_stdcost_rate_fits (a1 : Int) : Option (Bool) :=
(show Option (Bool) from
bnd (decide (a1 ≥ 0)) fun x3 =>
cond x3 (bnd (decide (a1 ≤ 1073741824)) fun x4 =>
some (x4 : Bool)) (some (false : Bool))).bind <| fun y0_1 =>
some ((y0_1 : Bool))
theorem d_stdcost_rate_fits_c {a1 : Int} {r : Bool} (h0 : d_stdcost_rate_fits a1 = some r) : PP Tryz.prog 175 [int a1] (fun y => y = boo r) := by
  unfold d_stdcost_rate_fits at h0
  refine pp_of_pc (R0 := fun y H => Cv (frzH H) y (boo r)) ?_ (fun y H hc => ⟨_, rfl, pvB r, hc⟩)
  refine pcw (c := _) Tryz.func175 rfl rfl ?_; intro Q hret hnorm
  refine tc tbk 5 (.mk ?_)
  refine jn h0 [] [] (fun (a : Bool) (k : Unit) => [(2, boo a)]) (fun a k => []) ⟨fun j2 h1 => ?_, ?_⟩
  refine tc tbk 2 (.mk ?_)
  refine nb tbk h1 fun x3 h1 => ?_
  refine tr tbk 1 (.mk ?_)
  cases x3
  replace h1 := cf h1
  refine tr tbk 5 (.mk ?_)
  exact lf h1 () leA
  replace h1 := ct h1
  refine tr tbk 1 (.mk ?_)
  refine nb tbk h1 fun x4 h1 => ?_
  refine tr tbk 3 (.mk ?_)
  exact lf h1 () leA
  rintro y0_1 _ h0
  obtain rfl := nxt_e h0
  refine wR hret (rT .nil) ?_
  exact .refl _
def d_stdcost_rate_of (n : Nat) (a1 : Int) (a2 : Int) : Option (Int × Int) :=
bnd (if 0 > a2 then 0 else a2) fun x3 =>
(d_money_MulDiv n x3 a1 1).bind fun x4 =>
some ((x4.1 : Int), (x4.2.2 : Int))
theorem d_stdcost_rate_of_c {n : Nat} {a1 : Int} {a2 : Int} {r : Int × Int} (h0 : d_stdcost_rate_of n a1 a2 = some r) : PP Tryz.prog 176 [int a1, int a2] (fun y => y = .tup [int r.1, int r.2]) := by
  unfold d_stdcost_rate_of at h0
  refine pp_of_pc (R0 := fun y H => Cv (frzH H) y (.tup [int r.1, int r.2])) ?_ (fun y H hc => ⟨_, rfl, .tup (pvl2 (pvI (r.1)) (pvI (r.2))), hc⟩)
  refine pcw (c := _) Tryz.func176 rfl rfl ?_; intro Q hret hnorm
  refine tc tbk 8 (.mk ?_)
  obtain ⟨x3, e3, h0⟩ := bnd_e h0
  refine sY (yv_max rfl rfl rfl e3) ?_
  refine tr tbk 1 (.mk ?_)
  obtain ⟨x4, e4, h0⟩ := bind_e h0
  refine sC cal118 (d_money_MulDiv_c e4) ?_
  refine tr tbk 15 (.mk ?_)
  obtain rfl := nxt_e h0
  refine wR hret (rT (rT .nil)) ?_
  exact .refl _
def d_fifo_wrong (a1 : GLayer) : Option (Bool) :=
(show Option (Bool) from
bnd (decide (a1.Qty < 1)) fun x4 =>
cond x4 (some (true : Bool)) (bnd (decide (a1.Qty > 288230376151711744)) fun x5 =>
cond x5 (some (true : Bool)) (bnd (decide (a1.Value < 0)) fun x6 =>
cond x6 (some (true : Bool)) (bnd (decide (a1.Value > 288230376151711744)) fun x7 =>
cond x7 (some (true : Bool)) (bnd (decide (a1.Profit < (-288230376151711744))) fun x8 =>
cond x8 (some (true : Bool)) (bnd (decide (a1.Profit > 288230376151711744)) fun x9 =>
some (x9 : Bool))))))).bind <| fun y0_1 =>
some ((y0_1 : Bool))
theorem d_fifo_wrong_c {a1 : GLayer} {r : Bool} (h0 : d_fifo_wrong a1 = some r) : PP Tryz.prog 226 [.agg (GLayer.av a1)] (fun y => y = boo r) := by
  unfold d_fifo_wrong at h0
  refine pp_of_pc (R0 := fun y H => Cv (frzH H) y (boo r)) ?_ (fun y H hc => ⟨_, rfl, pvB r, hc⟩)
  refine pcw (c := _) Tryz.func226 rfl rfl ?_; intro Q hret hnorm
  refine tc tbk 2 (.mk ?_)
  refine sB 1 fun v2 => ?_
  refine tr tbk 3 (.mk ?_)
  refine jn h0 [] [] (fun (a : Bool) (k : Unit) => [(2, boo a)]) (fun a k => []) ⟨fun j3 h1 => ?_, ?_⟩
  refine tc tbk 3 (.mk ?_)
  refine nb tbk h1 fun x4 h1 => ?_
  refine tr tbk 1 (.mk ?_)
  cases x4
  replace h1 := cf h1
  refine tr tbk 2 (.mk ?_)
  refine nb tbk h1 fun x5 h1 => ?_
  refine tr tbk 2 (.mk ?_)
  cases x5
  replace h1 := cf h1
  refine tr tbk 2 (.mk ?_)
  refine nb tbk h1 fun x6 h1 => ?_
  refine tr tbk 2 (.mk ?_)
  cases x6
  replace h1 := cf h1
  refine tr tbk 2 (.mk ?_)
  refine nb tbk h1 fun x7 h1 => ?_
  refine tr tbk 2 (.mk ?_)
  cases x7
  replace h1 := cf h1
  refine tr tbk 2 (.mk ?_)
  refine nb tbk h1 fun x8 h1 => ?_
  refine tr tbk 2 (.mk ?_)
  cases x8
  replace h1 := cf h1
  refine tr tbk 2 (.mk ?_)
  refine nb tbk h1 fun x9 h1 => ?_
  refine tr tbk 3 (.mk ?_)
  exact lf h1 () leA
  replace h1 := ct h1
  refine tr tbk 6 (.mk ?_)
  exact lf h1 () leA
  replace h1 := ct h1
  refine tr tbk 11 (.mk ?_)
  exact lf h1 () leA
  replace h1 := ct h1
  refine tr tbk 16 (.mk ?_)
  exact lf h1 () leA
  replace h1 := ct h1
  refine tr tbk 21 (.mk ?_)
  exact lf h1 () leA
  replace h1 := ct h1
  refine tr tbk 26 (.mk ?_)
  exact lf h1 () leA
  rintro y0_1 _ h0
  obtain rfl := nxt_e h0
  refine wR hret (rT .nil) ?_
  exact .refl _
def d_money_Add (a1 : Int) (a2 : Int) : Option (Int × Int) :=
(show Option (Bool) from
(d_money_in a1).bind fun x4 =>
bnd (!x4) fun x5 =>
cond x5 (some (true : Bool)) ((d_money_in a2).bind fun x6 =>
bnd (!x6) fun x7 =>
cond x7 (some (true : Bool)) (bnd (w64 (a1 + a2)) fun x8 =>
(d_money_in x8).bind fun x9 =>
bnd (!x9) fun x10 =>
some (x10 : Bool)))).bind <| fun y0_1 =>
cond y0_1 (some ((0 : Int), (2 : Int))) (bnd (w64 (a1 + a2)) fun x11 =>
some ((x11 : Int), (0 : Int)))
theorem d_money_Add_c {a1 : Int} {a2 : Int} {r : Int × Int} (h0 : d_money_Add a1 a2 = some r) : PP Tryz.prog 136 [int a1, int a2] (fun y => y = .tup [int r.1, int r.2]) := by
  unfold d_money_Add at h0
  refine pp_of_pc (R0 := fun y H => Cv (frzH H) y (.tup [int r.1, int r.2])) ?_ (fun y H hc => ⟨_, rfl, .tup (pvl2 (pvI (r.1)) (pvI (r.2))), hc⟩)
  refine pcw (c := _) Tryz.func136 rfl rfl ?_; intro Q hret hnorm
  refine tc tbk 7 (.mk ?_)
  refine jn h0 [0, 1, 4, 5] [] (fun (a : Bool) (k : Unit) => [(20, boo a)]) (fun a k => []) ⟨fun j3 h1 => ?_, ?_⟩
  refine tc tbk 2 (.mk ?_)
  obtain ⟨x4, e4, h1⟩ := bind_e h1
  refine sC cal138 (d_money_in_c e4) ?_
  refine nb tbk h1 fun x5 h1 => ?_
  refine tr tbk 1 (.mk ?_)
  cases x5
  replace h1 := cf h1
  refine tr tbk 1 (.mk ?_)
  obtain ⟨x6, e6, h1⟩ := bind_e h1
  refine sC cal138 (d_money_in_c e6) ?_
  refine nb tbk h1 fun x7 h1 => ?_
  refine tr tbk 2 (.mk ?_)
  cases x7
  replace h1 := cf h1
  refine tr tbk 2 (.mk ?_)
  refine ni tbk h1 fun x8 h1 => ?_
  obtain ⟨x9, e9, h1⟩ := bind_e h1
  refine sC cal138 (d_money_in_c e9) ?_
  refine nb tbk h1 fun x10 h1 => ?_
  refine tr tbk 2 (.mk ?_)
  exact lf h1 () leA
  replace h1 := ct h1
  refine tr tbk 7 (.mk ?_)
  exact lf h1 () leA
  replace h1 := ct h1
  refine tr tbk 12 (.mk ?_)
  exact lf h1 () leA
  rintro y0_1 _ h0
  cases y0_1
  replace h0 := cf h0
  refine tc tbk 6 (.mk ?_)
  refine ni tbk h0 fun x11 h0 => ?_
  refine tr tbk 3 (.mk ?_)
  obtain rfl := nxt_e h0
  refine wR hret (rT (rT .nil)) ?_
  exact .refl _
  replace h0 := ct h0
  refine tc tbk 6 (.mk ?_)
  obtain rfl := nxt_e h0
  refine wR hret (rT (rT .nil)) ?_
  exact .refl _
def d_money_Sum_L0 (a1 : List Int) : Nat → Int → Int → Option ((Int) ⊕ (Int × Int))
  | 0, _, _ => none
  | n + 1, y0_1, y0_2 =>
    bnd (decide (y0_2 < (a1.length : Int))) fun x3 =>
    cond x3 ((ix a1 y0_2).bind fun x4 =>
    (d_money_Add y0_1 x4).bind fun x5 =>
    bnd (decide (x5.2 ≠ 0)) fun x6 =>
    cond x6 (esc (some ((0 : Int), (x5.2 : Int)))) (bnd (w64 (y0_2 + 1)) fun x7 =>
    d_money_Sum_L0 a1 n (x5.1 : Int) (x7 : Int))) (brk (y0_1 : Int))
def d_money_Sum (n : Nat) (a1 : List Int) : Option (Int × Int) :=
(show Option ((Int) ⊕ (Int × Int)) from
d_money_Sum_L0 a1 n (0 : Int) (0 : Int)).bind <| sel <| fun y1_1 =>
some ((y1_1 : Int), (0 : Int))
theorem d_money_Sum_c {n : Nat} {a1 : List Int} {r : Int × Int} (h0 : d_money_Sum n a1 = some r) : PP Tryz.prog 100 [lst 1 fI a1] (fun y => y = .tup [int r.1, int r.2]) := by
  unfold d_money_Sum at h0
  refine pp_of_pc (R0 := fun y H => Cv (frzH H) y (.tup [int r.1, int r.2])) ?_ (fun y H hc => ⟨_, rfl, .tup (pvl2 (pvI (r.1)) (pvI (r.2))), hc⟩)
  refine pcw (c := _) Tryz.func100 rfl rfl ?_; intro Q hret hnorm
  refine tc tbk 13 (.mk ?_)
  refine sY (yv_len_sl rfl Tryz.underlying23 rfl (lst_len _)) ?_
  refine tr tbk 2 (.mk ?_)
  refine jnE h0 [2, 3] [] (fun (a : Int) (k : Unit) => [(4, int a)]) (fun a k => []) ⟨fun j2 h1 h0 => ?_, ?_⟩
  refine tc tbk 1 (.mk ?_)
  refine lp (fun n (a : Int × Int) => d_money_Sum_L0 a1 n a.1 a.2) ((0 : Int), (0 : Int)) () h1 [2, 3, 8, 9] [] (fun (a : Int × Int) (k : Unit) => [(4, int a.1), (10, int a.2)]) (fun a k => []) (fun _ => rfl) ⟨leA, ?_⟩
  rintro n ⟨y0_1, y0_2⟩ _ hm h1
  replace h1 : d_money_Sum_L0 a1 (n + 1) y0_1 y0_2 = some _ := h1
  rw [d_money_Sum_L0] at h1
  refine tc tbk 2 (.mk ?_)
  refine nb tbk h1 fun x3 h1 => ?_
  refine tr tbk 2 (.mk ?_)
  cases x3
  replace h1 := cf h1
  refine tc tbk 2 (.mk ?_)
  exact lfE h1 () leA
  replace h1 := ct h1
  refine tc tbk 6 (.mk ?_)
  obtain ⟨x4, e4, h1⟩ := bind_e h1
  refine sY (yv_ixT rfl Tryz.underlying23 sh3 rfl rfl e4) ?_
  refine tr tbk 11 (.mk ?_)
  obtain ⟨x5, e5, h1⟩ := bind_e h1
  refine sC cal136 (d_money_Add_c e5) ?_
  refine tr tbk 9 (.mk ?_)
  refine nb tbk h1 fun x6 h1 => ?_
  refine tr tbk 1 (.mk ?_)
  cases x6
  replace h1 := cf h1
  refine tc tbk 4 (.mk ?_)
  refine ni tbk h1 fun x7 h1 => ?_
  refine tr tbk 2 (.mk ?_)
  exact bk (x5.1, x7) () h1 leA
  replace h1 := ct h1
  refine tc tbk 7 (.mk ?_)
  obtain ⟨c8, hX, hj⟩ := esc_e h1; subst hj; replace h0 := hX.trans (sel_r h0)
  obtain rfl := nxt_e h0
  refine wR hret (rT (rT .nil)) ?_
  exact .refl _
  rintro y1_1 _ h0
  refine tc tbk 6 (.mk ?_)
  obtain rfl := nxt_e h0
  refine wR hret (rT (rT .nil)) ?_
  exact .refl _
def d_fifo_Total_L0 (a1 : List GLayer) : Nat → Int → (List Int) → (List Int) → (List Int) → Option ((List Int) × (List Int) × (List Int))
  | 0, _, _, _, _ => none
  | n + 1, y0_4, y0_5, y0_6, y0_7 =>
    bnd (decide (y0_4 < (a1.length : Int))) fun x7 =>
    cond x7 ((ix a1 y0_4).bind fun x8 =>
    bnd (y0_5 ++ ([x8.Qty] : List Int)) fun x10 =>
    asrt (x10.length ≤ 68719476736) <|
    bnd (y0_6 ++ ([x8.Value] : List Int)) fun x13 =>
    asrt (x13.length ≤ 68719476736) <|
    bnd (y0_7 ++ ([x8.Profit] : List Int)) fun x16 =>
    asrt (x16.length ≤ 68719476736) <|
    bnd (w64 (y0_4 + 1)) fun x19 =>
    d_fifo_Total_L0 a1 n (x19 : Int) (x10 : List Int) (x13 : List Int) (x16 : List Int)) (some ((y0_5 : List Int), (y0_6 : List Int), (y0_7 : List Int)))
def d_fifo_Total (n : Nat) (a1 : List GLayer) : Option (GLayer × Int) :=
(show Option ((List Int) × (List Int) × (List Int)) from
d_fifo_Total_L0 a1 n (0 : Int) (([] : List Int) : List Int) (([] : List Int) : List Int) (([] : List Int) : List Int)).bind <| p2 fun (y1_4 : List Int) (q0 : (List Int) × (List Int)) => (p2 fun (y1_5 : List Int) (y1_6 : List Int) =>
(show Option ((GLayer) ⊕ (GLayer × Int)) from
(d_money_Sum n y1_4).bind fun x23 =>
bnd (decide (x23.2 ≠ 0)) fun x24 =>
cond x24 (esc (some (((⟨0, 0, 0⟩ : GLayer) : GLayer), (x23.2 : Int)))) ((d_money_Sum n y1_5).bind fun x26 =>
bnd (decide (x26.2 ≠ 0)) fun x27 =>
cond x27 (esc (some (((⟨0, 0, 0⟩ : GLayer) : GLayer), (x26.2 : Int)))) ((d_money_Sum n y1_6).bind fun x29 =>
bnd (decide (x29.2 ≠ 0)) fun x30 =>
cond x30 (esc (some (((⟨0, 0, 0⟩ : GLayer) : GLayer), (x29.2 : Int)))) (brk ((⟨x23.1, x26.1, x29.1⟩ : GLayer) : GLayer))))).bind <| sel <| fun y2_1 =>
some ((y2_1 : GLayer), (0 : Int))) q0
theorem d_fifo_Total_c {n : Nat} {a1 : List GLayer} {r : GLayer × Int} (h0 : d_fifo_Total n a1 = some r) : PP Tryz.prog 99 [lst 3 GLayer.av a1] (fun y => y = .tup [.agg (GLayer.av r.1), int r.2]) := by
  unfold d_fifo_Total at h0
  refine pp_of_pc (R0 := fun y H => Cv (frzH H) y (.tup [.agg (GLayer.av r.1), int r.2])) ?_ (fun y H hc => ⟨_, rfl, .tup (pvl2 ((fun (a : GLayer) => PV.agg (GLayer.pvc a)) (r.1)) (pvI (r.2))), hc⟩)
  refine pcw (c := _) Tryz.func99 rfl rfl ?_; intro Q hret hnorm
  refine tc tbk 2 (.mk ?_)
  refine sA 1 z50 fun v2 => ?_
  refine tr tbk 12 (.mk ?_)
  refine sY (yv_len_sl rfl Tryz.underlying39 rfl (lst_len _)) ?_
  refine tr tbk 2 (.mk ?_)
  refine jn h0 [2, 3] [1] (fun (a : (List Int) × (List Int) × (List Int)) (k : Nat × Nat × Nat) => [(4, .sl 6 k.1 0 a.1.length), (5, .sl 7 k.2.1 0 a.2.1.length), (6, .sl 8 k.2.2 0 a.2.2.length)]) (fun a k => [(6, ⟨3, 1, true, true, k.1, a.1.map fI⟩), (7, ⟨3, 1, true, true, k.2.1, a.2.1.map fI⟩), (8, ⟨3, 1, true, true, k.2.2, a.2.2.map fI⟩)]) ⟨fun j3 h1 => ?_, ?_⟩
  refine tc tbk 1 (.mk ?_)
  refine c_nilobj 4 6 3 1 rfl rfl ?_; intro v4
  refine c_nilobj 5 7 3 1 rfl rfl ?_; intro v5
  refine c_nilobj 6 8 3 1 rfl rfl ?_; intro v6
  refine lp (fun n (a : Int × (List Int) × (List Int) × (List Int)) => d_fifo_Total_L0 a1 n a.1 a.2.1 a.2.2.1 a.2.2.2) ((0 : Int), (([] : List Int) : List Int), (([] : List Int) : List Int), (([] : List Int) : List Int)) (v4, v5, v6) h1 [2, 3, 14, 15] [1] (fun (a : Int × (List Int) × (List Int) × (List Int)) (k : Nat × Nat × Nat) => [(4, .sl 6 k.1 0 a.2.1.length), (5, .sl 7 k.2.1 0 a.2.2.1.length), (6, .sl 8 k.2.2 0 a.2.2.2.length), (16, int a.1)]) (fun a k => [(6, ⟨3, 1, true, true, k.1, a.2.1.map fI⟩), (7, ⟨3, 1, true, true, k.2.1, a.2.2.1.map fI⟩), (8, ⟨3, 1, true, true, k.2.2, a.2.2.2.map fI⟩)]) (fun _ => rfl) ⟨leA, ?_⟩
  rintro n ⟨y0_4, y0_5, y0_6, y0_7⟩ ⟨w0_1, w0_2, w0_3⟩ hm h1
  replace h1 : d_fifo_Total_L0 a1 (n + 1) y0_4 y0_5 y0_6 y0_7 = some _ := h1
  rw [d_fifo_Total_L0] at h1
  refine tc tbk 2 (.mk ?_)
  refine nb tbk h1 fun x7 h1 => ?_
  refine tr tbk 2 (.mk ?_)
  cases x7
  replace h1 := cf h1
  refine tc tbk 2 (.mk ?_)
  exact lf h1 (w0_1, w0_2, w0_3) leA
  replace h1 := ct h1
  refine tc tbk 6 (.mk ?_)
  obtain ⟨x8, e8, h1⟩ := bind_e h1
  refine sY (yv_ixT rfl Tryz.underlying39 sh50 rfl rfl e8) ?_
  refine tr tbk 1 (.mk ?_)
  refine sA 2 z50 fun v9 => ?_
  refine sS ⟨50, 3, true, true, v9, [[int x8.Qty, int x8.Value, int x8.Profit]]⟩ sh50 ?_
  refine tr tbk 1 (.mk ?_)
  refine c_drawE [0, 0, 2, 6, 15, 0, 0, 64, 192, 511, 0, 0, 2048, 6144, 16383, 32767, 65535, 131071] (rl [(1, [2]), (2, [2]), (6, [2]), (7, [2]), (11, [2]), (12, [2])] []) (rl [(14, [])] [2]) (rl [(4, false), (9, false), (14, false)] true) [0, 1, 2, 3, 5, 6, 7, 8, 10, 11, 12, 13, 4, 9, 14, 15, 16, 17] mixed (by kernel_rfl) ?_; intro K hK
  refine eM ?_
  refine eF fo50_0 ?_
  refine eL sh3 ?_
  refine eP (fun H hH => yv_to (y := lst 1 fI ([x8.Qty] : List Int)) (yv_buildSlice (ps := [(0, _)]) (rows := [[int x8.Qty]]) rfl Tryz.underlying23 bz3 (.cons rfl .nil) (by kernel_rfl) rfl rfl rfl) rfl) ?_
  refine eM ?_
  refine eF fo50_1 ?_
  refine eL sh3 ?_
  refine eP (fun H hH => yv_to (y := lst 1 fI ([x8.Value] : List Int)) (yv_buildSlice (ps := [(0, _)]) (rows := [[int x8.Value]]) rfl Tryz.underlying23 bz3 (.cons rfl .nil) (by kernel_rfl) rfl rfl rfl) rfl) ?_
  refine eM ?_
  refine eF fo50_2 ?_
  refine eL sh3 ?_
  refine eP (fun H hH => yv_to (y := lst 1 fI ([x8.Profit] : List Int)) (yv_buildSlice (ps := [(0, _)]) (rows := [[int x8.Profit]]) rfl Tryz.underlying23 bz3 (.cons rfl .nil) (by kernel_rfl) rfl rfl rfl) rfl) ?_
  obtain ⟨x10, e10, h1⟩ := bnd_e h1
  obtain ⟨p11, h1⟩ := asrt_e h1
  refine de_eff rfl rfl rfl rfl (yl_appT (g := fI) (l := y0_5) (m := ([x8.Qty] : List Int)) .any rfl Tryz.underlying23 bz3 by3 rfl rfl rfl rfl rfl rfl rfl rfl rfl rfl (Eq.symm rfl) (.refl _) (fun _ => rfl) e10 p11) (by rintro _ _ ⟨v12, -, rfl, rfl⟩; exact ⟨rfl, trivial⟩) ?_; rintro _ _ ⟨v12, -, rfl, rfl⟩
  obtain ⟨x13, e13, h1⟩ := bnd_e h1
  obtain ⟨p14, h1⟩ := asrt_e h1
  refine de_eff rfl rfl rfl rfl (yl_appT (g := fI) (l := y0_6) (m := ([x8.Value] : List Int)) .any rfl Tryz.underlying23 bz3 by3 rfl rfl rfl rfl rfl rfl rfl rfl rfl rfl (Eq.symm rfl) (.refl _) (fun _ => rfl) e13 p14) (by rintro _ _ ⟨v15, -, rfl, rfl⟩; exact ⟨rfl, trivial⟩) ?_; rintro _ _ ⟨v15, -, rfl, rfl⟩
  obtain ⟨x16, e16, h1⟩ := bnd_e h1
  obtain ⟨p17, h1⟩ := asrt_e h1
  refine de_eff rfl rfl rfl rfl (yl_appT (g := fI) (l := y0_7) (m := ([x8.Profit] : List Int)) .any rfl Tryz.underlying23 bz3 by3 rfl rfl rfl rfl rfl rfl rfl rfl rfl rfl (Eq.symm rfl) (.refl _) (fun _ => rfl) e16 p17) (by rintro _ _ ⟨v18, -, rfl, rfl⟩; exact trivial) ?_; rintro _ _ ⟨v18, -, rfl, rfl⟩
  iterate 3 refine eA ?_
  refine de_nil (hK _ ?_)
  refine tc tbk 2 (.mk ?_)
  refine ni tbk h1 fun x19 h1 => ?_
  refine tr tbk 2 (.mk ?_)
  exact bk (x19, x10, x13, x16) (v12, v15, v18) h1 leA
  rintro ⟨y1_4, y1_5, y1_6⟩ ⟨w1_1, w1_2, w1_3⟩ h0
  replace h0 := p2_e h0
  replace h0 := p2_e h0
  refine tc tbk 2 (.mk ?_)
  refine sA 9 z50 fun v20 => ?_
  refine tr tbk 13 (.mk ?_)
  refine sY (yv_buildSlice (ps := [(0, _), (1, _), (2, _)]) (rows := [[.pt 9 v20 0 0, .sl 6 w1_1 0 y1_4.length], [.pt 9 v20 0 1, .sl 7 w1_2 0 y1_5.length], [.pt 9 v20 0 2, .sl 8 w1_3 0 y1_6.length]]) rfl Tryz.underlying196 bz195 (.cons rfl (.cons rfl (.cons rfl .nil))) (by kernel_rfl) rfl rfl rfl) ?_
  refine sY (yv_to (y := int 3) (yv_len_sl rfl Tryz.underlying196 rfl (.list _ _)) rfl) ?_
  refine tr tbk 2 (.mk ?_)
  refine jnE h0 [2, 3, 9] [1] (fun (a : GLayer) (k : Unit) => []) (fun a k => [(9, ⟨50, 3, true, true, v20, [[int a.Qty, int a.Value, int a.Profit]]⟩)]) ⟨fun j21 h1 h0 => ?_, ?_⟩
  refine tc tbk 4 (.mk ?_)
  refine sY (yv_to (y := boo true) (yv_lss rfl rfl rfl) (congrArg boo (by decide))) ?_
  refine tr tbk 8 (.mk ?_)
  refine sY (yv_indexAddr (j := 0) rfl Tryz.underlying196 sh195 rfl rfl rfl (.list rfl)) ?_
  refine tr tbk 1 (.mk ?_)
  refine sA 10 z195 fun v22 => ?_
  refine sS ⟨195, 2, true, true, v22, [[.pt 9 v20 0 0, .sl 6 w1_1 0 y1_4.length]]⟩ sh195 ?_
  refine tr tbk 5 (.mk ?_)
  obtain ⟨x23, e23, h1⟩ := bind_e h1
  refine sY (yv_callT (v := .tup [int x23.1, int x23.2]) rfl rfl (.cons rfl .nil) cal100 (.cons (cv_lst rfl rfl rfl rfl rfl (Eq.symm rfl)) .nil) (d_money_Sum_c e23) rfl) ?_
  refine tr tbk 10 (.mk ?_)
  refine nb tbk h1 fun x24 h1 => ?_
  refine tr tbk 1 (.mk ?_)
  cases x24
  replace h1 := cf h1
  refine tc tbk 7 (.mk ?_)
  refine sS ⟨50, 3, true, true, v20, [[int x23.1, int 0, int 0]]⟩ sh3 ?_
  refine tr tbk 3 (.mk ?_)
  refine sY (yv_add (r := 1) rfl rfl rfl (by decide)) ?_
  refine tr tbk 5 (.mk ?_)
  refine sY (yv_to (y := boo true) (yv_lss rfl rfl rfl) (congrArg boo (by decide))) ?_
  refine tr tbk 8 (.mk ?_)
  refine sY (yv_indexAddr (j := 1) rfl Tryz.underlying196 sh195 rfl rfl rfl (.list rfl)) ?_
  refine tr tbk 1 (.mk ?_)
  refine sA 11 z195 fun v25 => ?_
  refine sS ⟨195, 2, true, true, v25, [[.pt 9 v20 0 1, .sl 7 w1_2 0 y1_5.length]]⟩ sh195 ?_
  refine tr tbk 5 (.mk ?_)
  obtain ⟨x26, e26, h1⟩ := bind_e h1
  refine sY (yv_callT (v := .tup [int x26.1, int x26.2]) rfl rfl (.cons rfl .nil) cal100 (.cons (cv_lst rfl rfl rfl rfl rfl (Eq.symm rfl)) .nil) (d_money_Sum_c e26) rfl) ?_
  refine tr tbk 10 (.mk ?_)
  refine nb tbk h1 fun x27 h1 => ?_
  refine tr tbk 1 (.mk ?_)
  cases x27
  replace h1 := cf h1
  refine tc tbk 7 (.mk ?_)
  refine sS ⟨50, 3, true, true, v20, [[int x23.1, int x26.1, int 0]]⟩ sh3 ?_
  refine tr tbk 3 (.mk ?_)
  refine sY (yv_add (r := 2) rfl rfl rfl (by decide)) ?_
  refine tr tbk 5 (.mk ?_)
  refine sY (yv_to (y := boo true) (yv_lss rfl rfl rfl) (congrArg boo (by decide))) ?_
  refine tr tbk 8 (.mk ?_)
  refine sY (yv_indexAddr (j := 2) rfl Tryz.underlying196 sh195 rfl rfl rfl (.list rfl)) ?_
  refine tr tbk 1 (.mk ?_)
  refine sA 12 z195 fun v28 => ?_
  refine sS ⟨195, 2, true, true, v28, [[.pt 9 v20 0 2, .sl 8 w1_3 0 y1_6.length]]⟩ sh195 ?_
  refine tr tbk 5 (.mk ?_)
  obtain ⟨x29, e29, h1⟩ := bind_e h1
  refine sY (yv_callT (v := .tup [int x29.1, int x29.2]) rfl rfl (.cons rfl .nil) cal100 (.cons (cv_lst rfl rfl rfl rfl rfl (Eq.symm rfl)) .nil) (d_money_Sum_c e29) rfl) ?_
  refine tr tbk 10 (.mk ?_)
  refine nb tbk h1 fun x30 h1 => ?_
  refine tr tbk 1 (.mk ?_)
  cases x30
  replace h1 := cf h1
  refine tc tbk 7 (.mk ?_)
  refine sS ⟨50, 3, true, true, v20, [[int x23.1, int x26.1, int x29.1]]⟩ sh3 ?_
  refine tr tbk 3 (.mk ?_)
  refine sY (yv_add (r := 3) rfl rfl rfl (by decide)) ?_
  refine tr tbk 5 (.mk ?_)
  refine sY (yv_to (y := boo false) (yv_lss rfl rfl rfl) (congrArg boo (by decide))) ?_
  refine tr tbk 4 (.mk ?_)
  exact lfE h1 () leA
  replace h1 := ct h1
  refine tc tbk 5 (.mk ?_)
  refine sS ⟨50, 3, true, true, v2, [[int 0, int 0, int 0]]⟩ sh50 ?_
  refine tr tbk 2 (.mk ?_)
  obtain ⟨c31, hX, hj⟩ := esc_e h1; subst hj; replace h0 := hX.trans (sel_r h0)
  obtain rfl := nxt_e h0
  refine wR hret (rC sh50 (rT .nil)) ?_
  exact .refl _
  replace h1 := ct h1
  refine tc tbk 5 (.mk ?_)
  refine sS ⟨50, 3, true, true, v2, [[int 0, int 0, int 0]]⟩ sh50 ?_
  refine tr tbk 2 (.mk ?_)
  obtain ⟨c32, hX, hj⟩ := esc_e h1; subst hj; replace h0 := hX.trans (sel_r h0)
  obtain rfl := nxt_e h0
  refine wR hret (rC sh50 (rT .nil)) ?_
  exact .refl _
  replace h1 := ct h1
  refine tc tbk 5 (.mk ?_)
  refine sS ⟨50, 3, true, true, v2, [[int 0, int 0, int 0]]⟩ sh50 ?_
  refine tr tbk 2 (.mk ?_)
  obtain ⟨c33, hX, hj⟩ := esc_e h1; subst hj; replace h0 := hX.trans (sel_r h0)
  obtain rfl := nxt_e h0
  refine wR hret (rC sh50 (rT .nil)) ?_
  exact .refl _
  rintro y2_1 _ h0
  refine tc tbk 3 (.mk ?_)
  refine sS ⟨50, 3, true, true, v2, [[int y2_1.Qty, int y2_1.Value, int y2_1.Profit]]⟩ sh50 ?_
  refine tr tbk 2 (.mk ?_)
  obtain rfl := nxt_e h0
  refine wR hret (rC sh50 (rT .nil)) ?_
  exact .refl _
def d_fifo_steady_L0 (a1 : List GLayer) : Nat → Int → (List Int) → Option ((List Int))
  | 0, _, _ => none
  | n + 1, y0_2, y0_3 =>
    bnd (decide (y0_2 < (a1.length : Int))) fun x4 =>
    cond x4 ((ix a1 y0_2).bind fun x5 =>
    bnd (w64 (0 - x5.Profit)) fun x7 =>
    bnd (if x7 > x5.Profit then x7 else x5.Profit) fun x8 =>
    bnd (y0_3 ++ ([x8] : List Int)) fun x9 =>
    asrt (x9.length ≤ 68719476736) <|
    bnd (w64 (y0_2 + 1)) fun x12 =>
    d_fifo_steady_L0 a1 n (x12 : Int) (x9 : List Int)) (some (y0_3 : List Int))
def d_fifo_steady (n : Nat) (a1 : List GLayer) : Option (Bool) :=
(show Option ((List Int)) from
d_fifo_steady_L0 a1 n (0 : Int) (([] : List Int) : List Int)).bind <| fun y1_2 =>
(d_money_Sum n y1_2).bind fun x13 =>
bnd (decide (x13.2 = 0)) fun x14 =>
some ((x14 : Bool))
theorem d_fifo_steady_c {n : Nat} {a1 : List GLayer} {r : Bool} (h0 : d_fifo_steady n a1 = some r) : PP Tryz.prog 227 [lst 3 GLayer.av a1] (fun y => y = boo r) := by
  unfold d_fifo_steady at h0
  refine pp_of_pc (R0 := fun y H => Cv (frzH H) y (boo r)) ?_ (fun y H hc => ⟨_, rfl, pvB r, hc⟩)
  refine pcw (c := _) Tryz.func227 rfl rfl ?_; intro Q hret hnorm
  refine tc tbk 12 (.mk ?_)
  refine sY (yv_len_sl rfl Tryz.underlying39 rfl (lst_len _)) ?_
  refine tr tbk 2 (.mk ?_)
  refine jn h0 [2] [] (fun (a : (List Int)) (k : Nat) => [(3, .sl 3 k 0 a.length)]) (fun a k => [(3, ⟨3, 1, true, true, k, a.map fI⟩)]) ⟨fun j2 h1 => ?_, ?_⟩
  refine tc tbk 1 (.mk ?_)
  refine c_nilobj 3 3 3 1 rfl rfl ?_; intro v3
  refine lp (fun n (a : Int × (List Int)) => d_fifo_steady_L0 a1 n a.1 a.2) ((0 : Int), (([] : List Int) : List Int)) v3 h1 [2, 8, 9] [] (fun (a : Int × (List Int)) (k : Nat) => [(3, .sl 3 k 0 a.2.length), (10, int a.1)]) (fun a k => [(3, ⟨3, 1, true, true, k, a.2.map fI⟩)]) (fun _ => rfl) ⟨leA, ?_⟩
  rintro n ⟨y0_2, y0_3⟩ w0_1 hm h1
  replace h1 : d_fifo_steady_L0 a1 (n + 1) y0_2 y0_3 = some _ := h1
  rw [d_fifo_steady_L0] at h1
  refine tc tbk 2 (.mk ?_)
  refine nb tbk h1 fun x4 h1 => ?_
  refine tr tbk 2 (.mk ?_)
  cases x4
  replace h1 := cf h1
  refine tc tbk 2 (.mk ?_)
  exact lf h1 w0_1 leA
  replace h1 := ct h1
  refine tc tbk 6 (.mk ?_)
  obtain ⟨x5, e5, h1⟩ := bind_e h1
  refine sY (yv_ixT rfl Tryz.underlying39 sh50 rfl rfl e5) ?_
  refine tr tbk 1 (.mk ?_)
  refine sA 1 z50 fun v6 => ?_
  refine sS ⟨50, 3, true, true, v6, [[int x5.Qty, int x5.Value, int x5.Profit]]⟩ sh50 ?_
  refine tr tbk 7 (.mk ?_)
  refine ni tbk h1 fun x7 h1 => ?_
  obtain ⟨x8, e8, h1⟩ := bnd_e h1
  refine sY (yv_max rfl rfl rfl e8) ?_
  refine sY (yv_to (y := lst 1 fI ([x8] : List Int)) (yv_buildSlice (ps := [(0, _)]) (rows := [[int x8]]) rfl Tryz.underlying23 bz3 (.cons rfl .nil) (by kernel_rfl) rfl rfl rfl) rfl) ?_
  obtain ⟨x9, e9, h1⟩ := bnd_e h1
  obtain ⟨p10, h1⟩ := asrt_e h1
  refine rse rfl rfl rfl (yl_appT (g := fI) (l := y0_3) (m := ([x8] : List Int)) .any rfl Tryz.underlying23 bz3 by3 rfl rfl rfl rfl rfl rfl rfl rfl rfl rfl (Eq.symm rfl) (.refl _) (fun _ => rfl) e9 p10) ?_; rintro _ _ ⟨v11, -, rfl, rfl⟩
  refine tr tbk 4 (.mk ?_)
  refine ni tbk h1 fun x12 h1 => ?_
  refine tr tbk 2 (.mk ?_)
  exact bk (x12, x9) v11 h1 leA
  rintro y1_2 w1_1 h0
  refine tc tbk 3 (.mk ?_)
  obtain ⟨x13, e13, h0⟩ := bind_e h0
  refine sY (yv_callT (v := .tup [int x13.1, int x13.2]) rfl rfl (.cons rfl .nil) cal100 (.cons (cv_lst rfl rfl rfl rfl rfl (Eq.symm rfl)) .nil) (d_money_Sum_c e13) rfl) ?_
  refine tr tbk 9 (.mk ?_)
  refine nb tbk h0 fun x14 h0 => ?_
  refine tr tbk 2 (.mk ?_)
  obtain rfl := nxt_e h0
  refine wR hret (rT .nil) ?_
  exact .refl _
def d_fifo_Right_L0 (a1 : List GLayer) : Nat → Int → Option ((Unit) ⊕ ((Int)))
  | 0, _ => none
  | n + 1, y0_1 =>
    bnd (decide (y0_1 < (a1.length : Int))) fun x7 =>
    cond x7 ((ix a1 y0_1).bind fun x8 =>
    (d_fifo_wrong x8).bind fun x9 =>
    cond x9 (esc (some (y0_1 : Int))) (bnd (w64 (y0_1 + 1)) fun x10 =>
    d_fifo_Right_L0 a1 n (x10 : Int))) (brk ())
def d_fifo_Right (n : Nat) (a1 : List GLayer) : Option (Bool) :=
(show Option (Bool) from
bnd (decide ((a1.length : Int) > 30)) fun x3 =>
cond x3 (some (true : Bool)) ((show Option ((Bool)) from
(show Option ((Int)) from
(show Option ((Unit) ⊕ ((Int))) from
d_fifo_Right_L0 a1 n (0 : Int)).bind <| sel <| fun _ =>
some ((-1) : Int)).bind <| fun y2_1 =>
bnd (decide (y2_1 ≥ 0)) fun x12 =>
some (x12 : Bool)).bind <| fun y3_1 =>
some (y3_1 : Bool))).bind <| fun y4_1 =>
cond y4_1 (some ((false : Bool))) ((d_fifo_Total n a1).bind fun x13 =>
(show Option (Bool) from
bnd (decide (x13.2 = 0)) fun x16 =>
cond x16 ((d_fifo_steady n a1).bind fun x17 =>
some (x17 : Bool)) (some (false : Bool))).bind <| fun y5_1 =>
some ((y5_1 : Bool)))
theorem d_fifo_Right_c {n : Nat} {a1 : List GLayer} {r : Bool} (h0 : d_fifo_Right n a1 = some r) : PP Tryz.prog 201 [lst 3 GLayer.av a1] (fun y => y = boo r) := by
  unfold d_fifo_Right at h0
  refine pp_of_pc (R0 := fun y H => Cv (frzH H) y (boo r)) ?_ (fun y H hc => ⟨_, rfl, pvB r, hc⟩)
  refine pcw (c := _) Tryz.func201 rfl rfl ?_; intro Q hret hnorm
  refine tc tbk 6 (.mk ?_)
  refine jn h0 [0, 2] [] (fun (a : Bool) (k : Unit) => [(11, boo a)]) (fun a k => []) ⟨fun j2 h1 => ?_, ?_⟩
  refine tc tbk 2 (.mk ?_)
  refine sY (yv_len_sl rfl Tryz.underlying39 rfl (lst_len _)) ?_
  refine nb tbk h1 fun x3 h1 => ?_
  refine tr tbk 1 (.mk ?_)
  cases x3
  replace h1 := cf h1
  refine tr tbk 1 (.mk ?_)
  obtain ⟨j4, h2, h1⟩ := bind_e h1
  refine rse (Out := fun y H' => (∃ (a : Bool) (k : Unit), a = j4 ∧ y = boo a ∧ H' = hk [])) rfl rfl rfl (yl_call rfl rfl (.cons rfl (.cons rfl .nil)) cal225 ?_) ?_
  refine pcw (c := _) Tryz.func225 rfl rfl ?_; intro Q hret hnorm
  refine tc tbk 8 (.mk ?_)
  obtain ⟨j5, h3, h2⟩ := bind_e h2
  refine rse (Out := fun y H' => (∃ (a : Int) (k : Unit), a = j5 ∧ y = int a ∧ H' = hk [])) rfl rfl rfl (yl_call rfl rfl (.cons rfl (.cons rfl .nil)) cal242 ?_) ?_
  refine pcw (c := _) Tryz.func242 rfl rfl ?_; intro Q hret hnorm
  refine tc tbk 8 (.mk ?_)
  refine sY (yv_len_sl rfl Tryz.underlying39 rfl (lst_len _)) ?_
  refine tr tbk 2 (.mk ?_)
  refine jnE h3 [4] [] (fun (a : Unit) (k : Unit) => []) (fun a k => []) ⟨fun j6 h4 h3 => ?_, ?_⟩
  refine tc tbk 1 (.mk ?_)
  refine lp (fun n (a : Int) => d_fifo_Right_L0 a1 n a) (0 : Int) () h4 [0, 1, 4, 7] [] (fun (a : Int) (k : Unit) => [(8, int a)]) (fun a k => []) (fun _ => rfl) ⟨leA, ?_⟩
  rintro n y0_1 _ hm h4
  replace h4 : d_fifo_Right_L0 a1 (n + 1) y0_1 = some _ := h4
  rw [d_fifo_Right_L0] at h4
  refine tc tbk 2 (.mk ?_)
  refine nb tbk h4 fun x7 h4 => ?_
  refine tr tbk 2 (.mk ?_)
  cases x7
  replace h4 := cf h4
  refine tc tbk 2 (.mk ?_)
  exact lfE h4 () leA
  replace h4 := ct h4
  refine tc tbk 14 (.mk ?_)
  obtain ⟨x8, e8, h4⟩ := bind_e h4
  refine sY (yv_ixT rfl Tryz.underlying39 sh50 rfl rfl e8) ?_
  refine tr tbk 1 (.mk ?_)
  obtain ⟨x9, e9, h4⟩ := bind_e h4
  refine sC cal226 (d_fifo_wrong_c e9) ?_
  refine tr tbk 1 (.mk ?_)
  cases x9
  replace h4 := cf h4
  refine tc tbk 4 (.mk ?_)
  refine ni tbk h4 fun x10 h4 => ?_
  refine tr tbk 2 (.mk ?_)
  exact bk x10 () h4 leA
  replace h4 := ct h4
  refine tc tbk 6 (.mk ?_)
  obtain ⟨c11, hX, hj⟩ := esc_e h4; subst hj; replace h3 := hX.trans (sel_r h3)
  obtain rfl := nxt_e h3
  refine w_ret (hret _ _ (hk []) (.tmp rfl .nil) (fun _ _ h => nomatch h) ?_)
  exact ⟨y0_1, (), rfl, rfl, rfl⟩
  rintro _ _ h3
  refine tc tbk 4 (.mk ?_)
  obtain rfl := nxt_e h3
  refine w_ret (hret _ _ (hk []) (.tmp rfl .nil) (fun _ _ h => nomatch h) ?_)
  exact ⟨(-1), (), rfl, rfl, rfl⟩
  rintro y _ ⟨y2_1, _, rfl, hc, rfl⟩
  subst hc
  refine nb tbk h2 fun x12 h2 => ?_
  refine tr tbk 2 (.mk ?_)
  obtain rfl := nxt_e h2
  refine w_ret (hret _ _ (hk []) (.tmp rfl .nil) (fun _ _ h => nomatch h) ?_)
  exact ⟨x12, (), rfl, rfl, rfl⟩
  rintro y _ ⟨y3_1, _, rfl, hc, rfl⟩
  subst hc
  refine tr tbk 2 (.mk ?_)
  exact lf h1 () leA
  replace h1 := ct h1
  refine tr tbk 4 (.mk ?_)
  exact lf h1 () leA
  rintro y4_1 _ h0
  cases y4_1
  replace h0 := cf h0
  refine tc tbk 5 (.mk ?_)
  obtain ⟨x13, e13, h0⟩ := bind_e h0
  refine sC cal99 (d_fifo_Total_c e13) ?_
  refine tr tbk 3 (.mk ?_)
  refine sA 1 z50 fun v14 => ?_
  refine sS ⟨50, 3, true, true, v14, [[int x13.1.Qty, int x13.1.Value, int x13.1.Profit]]⟩ sh50 ?_
  refine tr tbk 3 (.mk ?_)
  refine jn h0 [] [] (fun (a : Bool) (k : Unit) => [(2, boo a)]) (fun a k => []) ⟨fun j15 h1 => ?_, ?_⟩
  refine tc tbk 2 (.mk ?_)
  refine nb tbk h1 fun x16 h1 => ?_
  refine tr tbk 1 (.mk ?_)
  cases x16
  replace h1 := cf h1
  refine tr tbk 5 (.mk ?_)
  exact lf h1 () leA
  replace h1 := ct h1
  refine tr tbk 1 (.mk ?_)
  obtain ⟨x17, e17, h1⟩ := bind_e h1
  refine sC cal227 (d_fifo_steady_c e17) ?_
  refine tr tbk 3 (.mk ?_)
  exact lf h1 () leA
  rintro y5_1 _ h0
  obtain rfl := nxt_e h0
  refine wR hret (rT .nil) ?_
  exact .refl _
  replace h0 := ct h0
  refine tc tbk 5 (.mk ?_)
  obtain rfl := nxt_e h0
  refine wR hret (rT .nil) ?_
  exact .refl _
def d_fifo_In (n : Nat) (a1 : List GLayer) (a2 : GLayer) : Option ((List GLayer) × Int) :=
asrt (a1.length ≤ 68719476736) <|
(show Option (Bool) from
bnd (decide (a2.Qty < 1)) fun x7 =>
cond x7 (some (true : Bool)) (bnd (decide (a2.Value < 0)) fun x8 =>
some (x8 : Bool))).bind <| fun y0_1 =>
cond y0_1 (some ((a1 : List GLayer), (1 : Int))) (bnd (decide ((a1.length : Int) ≥ 30)) fun x9 =>
cond x9 (some ((a1 : List GLayer), (6 : Int))) (asrt (a1.length ≤ 68719476736) <|
bnd (a1 ++ ([a2] : List GLayer)) fun x12 =>
asrt (x12.length ≤ 68719476736) <|
(d_fifo_Right n x12).bind fun x15 =>
bnd (!x15) fun x16 =>
cond x16 (some ((a1 : List GLayer), (2 : Int))) (some ((x12 : List GLayer), (0 : Int)))))
theorem d_fifo_In_c {n : Nat} {a1 : List GLayer} {a2 : GLayer} {r : (List GLayer) × Int} (h0 : d_fifo_In n a1 a2 = some r) : PP Tryz.prog 267 [lst 3 GLayer.av a1, .agg (GLayer.av a2)] (fun y => y = .tup [lst 3 GLayer.av r.1, int r.2]) := by
  unfold d_fifo_In at h0
  refine pp_of_pc (R0 := fun y H => Cv (frzH H) y (.tup [lst 3 GLayer.av r.1, int r.2])) ?_ (fun y H hc => ⟨_, rfl, .tup (pvl2 ((pvLs GLayer.pvc) (r.1)) (pvI (r.2))), hc⟩)
  refine pcw (c := _) Tryz.func267 rfl rfl ?_; intro Q hret hnorm
  refine tc tbk 2 (.mk ?_)
  refine sB 1 fun v3 => ?_
  refine tr tbk 6 (.mk ?_)
  obtain ⟨p4, h0⟩ := asrt_e h0
  refine rse rfl rfl rfl (yl_call rfl rfl (.cons rfl .nil) cal59 (pc_cv (clone59_c (id := 2) (l := a1) rfl p4) (.cons (.refl _) .nil))) ?_; rintro _ _ ⟨v5, rfl, rfl⟩
  refine tr tbk 5 (.mk ?_)
  refine jn h0 [0, 3, 4, 5] [1, 2] (fun (a : Bool) (k : Unit) => [(9, boo a)]) (fun a k => []) ⟨fun j6 h1 => ?_, ?_⟩
  refine tc tbk 3 (.mk ?_)
  refine nb tbk h1 fun x7 h1 => ?_
  refine tr tbk 1 (.mk ?_)
  cases x7
  replace h1 := cf h1
  refine tr tbk 2 (.mk ?_)
  refine nb tbk h1 fun x8 h1 => ?_
  refine tr tbk 3 (.mk ?_)
  exact lf h1 () leA
  replace h1 := ct h1
  refine tr tbk 6 (.mk ?_)
  exact lf h1 () leA
  rintro y0_1 _ h0
  cases y0_1
  replace h0 := cf h0
  refine tc tbk 4 (.mk ?_)
  refine sY (yv_len_sl rfl Tryz.underlying39 rfl (.sl rfl rfl)) ?_
  refine nb tbk h0 fun x9 h0 => ?_
  refine tr tbk 2 (.mk ?_)
  cases x9
  replace h0 := cf h0
  refine tc tbk 4 (.mk ?_)
  refine c_drawE [0, 1, 0, 4, 15, 31] (rl [(2, [1])] []) (rl [(4, [])] [1]) (rl [(1, false), (4, false)] true) [0, 2, 3, 1, 4, 5] mixed (by kernel_rfl) ?_; intro K hK
  refine eM ?_
  refine eL sh50 ?_
  refine eP (fun H hH => yv_to (y := lst 3 GLayer.av ([a2] : List GLayer)) (yv_buildSlice (ps := [(0, _)]) (rows := [[int a2.Qty, int a2.Value, int a2.Profit]]) rfl Tryz.underlying39 bz50 (.cons rfl .nil) (by kernel_rfl) rfl rfl rfl) rfl) ?_
  obtain ⟨p10, h0⟩ := asrt_e h0
  refine de_eff rfl rfl rfl rfl (Yield.frz 2 rfl (yl_call rfl rfl (.cons rfl .nil) cal59 (pc_cv (clone59_c (id := 3) (l := a1) rfl p10) (.cons (cv_lst rfl rfl rfl rfl rfl (Eq.symm rfl)) .nil)))) (by rintro _ _ ⟨v11, rfl, rfl⟩; exact ⟨rfl, trivial⟩) ?_; rintro _ _ ⟨v11, rfl, rfl⟩
  obtain ⟨x12, e12, h0⟩ := bnd_e h0
  obtain ⟨p13, h0⟩ := asrt_e h0
  refine de_eff rfl rfl rfl rfl (yl_appT (g := GLayer.av) (l := a1) (m := ([a2] : List GLayer)) .any rfl Tryz.underlying39 bz50 by50 rfl rfl rfl rfl rfl rfl rfl rfl rfl rfl (Eq.symm rfl) (.refl _) (fun _ => rfl) e12 p13) (by rintro _ _ ⟨v14, -, rfl, rfl⟩; exact trivial) ?_; rintro _ _ ⟨v14, -, rfl, rfl⟩
  refine eA ?_
  refine de_nil (hK _ ?_)
  refine tc tbk 4 (.mk ?_)
  obtain ⟨x15, e15, h0⟩ := bind_e h0
  refine sY (yv_callT (v := boo x15) rfl rfl (.cons rfl .nil) cal201 (.cons (cv_lst rfl rfl rfl rfl rfl (Eq.symm rfl)) .nil) (d_fifo_Right_c e15) rfl) ?_
  refine nb tbk h0 fun x16 h0 => ?_
  refine tr tbk 1 (.mk ?_)
  cases x16
  replace h0 := cf h0
  refine tc tbk 8 (.mk ?_)
  obtain rfl := nxt_e h0
  refine wR hret (rT (rT .nil)) ?_
  exact CvL.tup (.cons (cv_lst rfl rfl rfl rfl rfl (Eq.symm rfl)) (.cons (.refl _) .nil))
  replace h0 := ct h0
  refine tc tbk 7 (.mk ?_)
  obtain rfl := nxt_e h0
  refine wR hret (rT (rT .nil)) ?_
  exact CvL.tup (.cons (cv_lst rfl rfl rfl rfl rfl (Eq.symm rfl)) (.cons (.refl _) .nil))
  replace h0 := ct h0
  refine tc tbk 7 (.mk ?_)
  obtain rfl := nxt_e h0
  refine wR hret (rT (rT .nil)) ?_
  exact CvL.tup (.cons (cv_lst rfl rfl rfl rfl rfl (Eq.symm rfl)) (.cons (.refl _) .nil))
  replace h0 := ct h0
  refine tc tbk 7 (.mk ?_)
  obtain rfl := nxt_e h0
  refine wR hret (rT (rT .nil)) ?_
  exact CvL.tup (.cons (cv_lst rfl rfl rfl rfl rfl (Eq.symm rfl)) (.cons (.refl _) .nil))
def d_mavg_In (n : Nat) (a1 : List GLayer) (a2 : GLayer) : Option ((List GLayer) × Int) :=
(show Option ((Unit)) from
some ()).bind <| fun _ =>
(d_fifo_In n a1 a2).bind fun x6 =>
bnd (decide (x6.2 ≠ 0)) fun x7 =>
cond x7 (some ((x6.1 : List GLayer), (x6.2 : Int))) ((show Option ((Unit)) from
some ()).bind <| fun _ =>
(d_fifo_Total n x6.1).bind fun x10 =>
bnd (decide (x10.2 ≠ 0)) fun x12 =>
cond x12 (asrt (a1.length ≤ 68719476736) <|
some ((a1 : List GLayer), (x10.2 : Int))) (some ((([x10.1] : List GLayer) : List GLayer), (0 : Int))))
theorem d_mavg_In_c {n : Nat} {a1 : List GLayer} {a2 : GLayer} {r : (List GLayer) × Int} (h0 : d_mavg_In n a1 a2 = some r) : PP Tryz.prog 272 [lst 3 GLayer.av a1, .agg (GLayer.av a2)] (fun y => y = .tup [lst 3 GLayer.av r.1, int r.2]) := by
  unfold d_mavg_In at h0
  refine pp_of_pc (R0 := fun y H => Cv (frzH H) y (.tup [lst 3 GLayer.av r.1, int r.2])) ?_ (fun y H hc => ⟨_, rfl, .tup (pvl2 ((pvLs GLayer.pvc) (r.1)) (pvI (r.2))), hc⟩)
  refine pcw (c := _) Tryz.func272 rfl rfl ?_; intro Q hret hnorm
  refine tc tbk 2 (.mk ?_)
  refine sB 1 fun v3 => ?_
  refine tr tbk 4 (.mk ?_)
  refine c_drawE [0, 1, 0, 0, 15, 31, 63, 63, 127, 511] (rl [(3, [1])] []) (fun i => [1]) (rl [(0, false)] true) [2, 3, 0, 1, 4, 5, 6, 7, 8, 9] mixed (by kernel_rfl) ?_; intro K hK
  refine eM ?_
  refine eL sh50 ?_
  obtain ⟨j4, h1, h0⟩ := bind_e h0
  refine de_eff (Out := fun y H' => (∃ (a : Unit) (k : Unit), a = j4 ∧ y = .agg [.fn (.func 267) [] [], .fn (.func 268) [] [], .fn (.func 99) [] []] ∧ H' = hk [(1, ⟨50, 3, true, true, v3, [[int a2.Qty, int a2.Value, int a2.Profit]]⟩)])) rfl rfl rfl rfl (yl_call rfl rfl .nil cal274 ?_) (by rintro y _ ⟨_, _, rfl, hc, rfl⟩ <;> exact ⟨rfl, trivial⟩) ?_
  refine pcw (c := _) Tryz.func274 rfl rfl ?_; intro Q hret hnorm
  refine tc tbk 2 (.mk ?_)
  refine sA 2 z277 fun v5 => ?_
  refine tr tbk 4 (.mk ?_)
  refine sS ⟨277, 3, true, true, v5, [[.fn (.func 267) [] [], .fn (.func 268) [] [], .fn (.func 99) [] []]]⟩ sh277 ?_
  refine tr tbk 1 (.mk ?_)
  obtain rfl := nxt_e h1
  refine w_ret (hret _ _ (hk [(1, ⟨50, 3, true, true, v3, [[int a2.Qty, int a2.Value, int a2.Profit]]⟩)]) (.cell rfl (.pt rfl rfl rfl) sh277 rfl .nil) (HK.le ⟨rfl, trivial⟩) ?_)
  exact ⟨(), (), rfl, rfl, rfl⟩
  rintro y _ ⟨_, _, rfl, hc, rfl⟩
  subst hc
  refine eP (fun H hH => yv_field rfl fp277_0 sh167 rfl rfl) ?_
  obtain ⟨x6, e6, h0⟩ := bind_e h0
  refine eP (fun H hH => yv_callP rfl rfl (.cons rfl (.cons rfl .nil)) cal267 (CvL.refl _) (d_fifo_In_c e6)) ?_
  refine eM ?_
  iterate 2 refine eX ?_
  iterate 2 refine eA ?_
  refine de_nil (hK _ ?_)
  refine tc tbk 4 (.mk ?_)
  refine nb tbk h0 fun x7 h0 => ?_
  refine tr tbk 1 (.mk ?_)
  cases x7
  replace h0 := cf h0
  refine tc tbk 4 (.mk ?_)
  obtain ⟨j8, h1, h0⟩ := bind_e h0
  refine rse (Out := fun y H' => (∃ (a : Unit) (k : Unit), a = j8 ∧ y = .agg [.fn (.func 267) [] [], .fn (.func 268) [] [], .fn (.func 99) [] []] ∧ H' = hk [(1, ⟨50, 3, true, true, v3, [[int a2.Qty, int a2.Value, int a2.Profit]]⟩)])) rfl rfl rfl (yl_call rfl rfl .nil cal274 ?_) ?_
  refine pcw (c := _) Tryz.func274 rfl rfl ?_; intro Q hret hnorm
  refine tc tbk 2 (.mk ?_)
  refine sA 3 z277 fun v9 => ?_
  refine tr tbk 4 (.mk ?_)
  refine sS ⟨277, 3, true, true, v9, [[.fn (.func 267) [] [], .fn (.func 268) [] [], .fn (.func 99) [] []]]⟩ sh277 ?_
  refine tr tbk 1 (.mk ?_)
  obtain rfl := nxt_e h1
  refine w_ret (hret _ _ (hk [(1, ⟨50, 3, true, true, v3, [[int a2.Qty, int a2.Value, int a2.Profit]]⟩)]) (.cell rfl (.pt rfl rfl rfl) sh277 rfl .nil) (HK.le ⟨rfl, trivial⟩) ?_)
  exact ⟨(), (), rfl, rfl, rfl⟩
  rintro y _ ⟨_, _, rfl, hc, rfl⟩
  subst hc
  refine tr tbk 2 (.mk ?_)
  obtain ⟨x10, e10, h0⟩ := bind_e h0
  refine sC cal99 (d_fifo_Total_c e10) ?_
  refine tr tbk 3 (.mk ?_)
  refine sA 4 z50 fun v11 => ?_
  refine sS ⟨50, 3, true, true, v11, [[int x10.1.Qty, int x10.1.Value, int x10.1.Profit]]⟩ sh50 ?_
  refine tr tbk 6 (.mk ?_)
  refine nb tbk h0 fun x12 h0 => ?_
  refine tr tbk 1 (.mk ?_)
  cases x12
  replace h0 := cf h0
  refine tc tbk 5 (.mk ?_)
  refine sY (yv_to (y := lst 3 GLayer.av ([x10.1] : List GLayer)) (yv_buildSlice (ps := [(0, _)]) (rows := [[int x10.1.Qty, int x10.1.Value, int x10.1.Profit]]) rfl Tryz.underlying39 bz50 (.cons rfl .nil) (by kernel_rfl) rfl rfl rfl) rfl) ?_
  refine tr tbk 3 (.mk ?_)
  obtain rfl := nxt_e h0
  refine wR hret (rT (rT .nil)) ?_
  exact .refl _
  replace h0 := ct h0
  refine tc tbk 4 (.mk ?_)
  obtain ⟨p13, h0⟩ := asrt_e h0
  refine rse rfl rfl rfl (yl_app0T (g := GLayer.av) (m := a1) 5 rfl Tryz.underlying39 bz50 by50 rfl rfl rfl rfl (.refl _) (fun _ => rfl) p13) ?_; rintro _ _ ⟨v14, rfl, rfl⟩
  refine tr tbk 4 (.mk ?_)
  obtain rfl := nxt_e h0
  refine wR hret (rT (rT .nil)) ?_
  exact CvL.tup (.cons (cv_lst rfl rfl rfl rfl rfl (Eq.symm rfl)) (.cons (.refl _) .nil))
  replace h0 := ct h0
  refine tc tbk 8 (.mk ?_)
  obtain rfl := nxt_e h0
  refine wR hret (rT (rT .nil)) ?_
  exact .refl _
def d_stdcost_In (n : Nat) (a1 : List GLayer) (a2 : GLayer) (a3 : Int) : Option ((List GLayer) × Int × Int) :=
asrt (a1.length ≤ 68719476736) <|
(show Option (Bool) from
(d_stdcost_rate_fits a3).bind fun x8 =>
bnd (!x8) fun x9 =>
cond x9 (some (true : Bool)) (bnd (decide (a2.Qty < 1)) fun x10 =>
cond x10 (some (true : Bool)) (bnd (decide (a2.Value < 0)) fun x11 =>
some (x11 : Bool)))).bind <| fun y0_1 =>
cond y0_1 (some ((a1 : List GLayer), (0 : Int), (1 : Int))) ((d_stdcost_rate_of n a3 a2.Qty).bind fun x12 =>
(show Option (Bool) from
bnd (decide (x12.2 ≠ 0)) fun x14 =>
cond x14 (some (true : Bool)) (bnd (decide (a2.Value > 288230376151711744)) fun x15 =>
some (x15 : Bool))).bind <| fun y1_1 =>
cond y1_1 (some ((a1 : List GLayer), (0 : Int), (2 : Int))) (bnd (w64 (a2.Value - x12.1)) fun x16 =>
(show Option (((List GLayer)) ⊕ (Int) ⊕ (Int)) from
(show Option ((Unit)) from
some ()).bind <| fun _ =>
(show Option (((List GLayer)) ⊕ (Int)) from
asrt (a1.length ≤ 68719476736) <|
(show Option (Bool) from
bnd (decide (a2.Qty < 1)) fun x26 =>
cond x26 (some (true : Bool)) (bnd (decide (x12.1 < 0)) fun x27 =>
some (x27 : Bool))).bind <| fun y3_1 =>
cond y3_1 (some (.inr (1 : Int))) (bnd (decide ((a1.length : Int) ≥ 30)) fun x28 =>
cond x28 (some (.inr (6 : Int))) (asrt (a1.length ≤ 68719476736) <|
bnd (a1 ++ ([(⟨a2.Qty, x12.1, a2.Profit⟩ : GLayer)] : List GLayer)) fun x31 =>
asrt (x31.length ≤ 68719476736) <|
(d_fifo_Right n x31).bind fun x34 =>
bnd (!x34) fun x35 =>
cond x35 (some (.inr (2 : Int))) (some (.inl (x31 : List GLayer)))))).bind <| selr (fun y4_2 =>
(show Option ((Unit)) from
some ()).bind <| fun _ =>
(d_fifo_Total n y4_2).bind fun x38 =>
bnd (decide (x38.2 ≠ 0)) fun x40 =>
cond x40 (asrt (a1.length ≤ 68719476736) <|
some (.inr (.inl (x38.2 : Int)))) (some (.inl (([x38.1] : List GLayer) : List GLayer)))) <| fun y5_2 =>
bnd (decide (y5_2 ≠ 0)) fun x43 =>
cond x43 (some (.inr (.inr (y5_2 : Int)))) ((show Option ((Unit)) from
some ()).bind <| fun _ =>
(d_fifo_Total n a1).bind fun x46 =>
bnd (decide (x46.2 ≠ 0)) fun x48 =>
cond x48 (asrt (a1.length ≤ 68719476736) <|
some (.inr (.inl (x46.2 : Int)))) (some (.inl (([x46.1] : List GLayer) : List GLayer))))).bind <| selr (fun y10_1 =>
some ((y10_1 : List GLayer), (x16 : Int), (0 : Int))) <| selr (fun y11_2 =>
bnd (decide (y11_2 ≠ 0)) fun x51 =>
cond x51 (some ((a1 : List GLayer), (0 : Int), (y11_2 : Int))) (some ((a1 : List GLayer), (x16 : Int), (0 : Int)))) <| fun y12_2 =>
bnd (decide (y12_2 ≠ 0)) fun x52 =>
cond x52 (some ((a1 : List GLayer), (0 : Int), (y12_2 : Int))) (some ((a1 : List GLayer), (x16 : Int), (0 : Int)))))
theorem d_stdcost_In_c {n : Nat} {a1 : List GLayer} {a2 : GLayer} {a3 : Int} {r : (List GLayer) × Int × Int} (h0 : d_stdcost_In n a1 a2 a3 = some r) : PP Tryz.prog 281 [lst 3 GLayer.av a1, .agg (GLayer.av a2), int a3] (fun y => y = .tup [lst 3 GLayer.av r.1, int r.2.1, int r.2.2]) := by
  unfold d_stdcost_In at h0
  refine pp_of_pc (R0 := fun y H => Cv (frzH H) y (.tup [lst 3 GLayer.av r.1, int r.2.1, int r.2.2])) ?_ (fun y H hc => ⟨_, rfl, .tup (pvl3 ((pvLs GLayer.pvc) (r.1)) (pvI (r.2.1)) (pvI (r.2.2))), hc⟩)
  refine pcw (c := _) Tryz.func281 rfl rfl ?_; intro Q hret hnorm
  refine tc tbk 2 (.mk ?_)
  refine sB 1 fun v4 => ?_
  refine tr tbk 7 (.mk ?_)
  obtain ⟨p5, h0⟩ := asrt_e h0
  refine rse rfl rfl rfl (yl_call rfl rfl (.cons rfl .nil) cal59 (pc_cv (clone59_c (id := 2) (l := a1) rfl p5) (.cons (.refl _) .nil))) ?_; rintro _ _ ⟨v6, rfl, rfl⟩
  refine tr tbk 9 (.mk ?_)
  refine jn h0 [0, 2, 4, 6, 7, 8, 10] [1, 2] (fun (a : Bool) (k : Unit) => [(30, boo a)]) (fun a k => []) ⟨fun j7 h1 => ?_, ?_⟩
  refine tc tbk 3 (.mk ?_)
  obtain ⟨x8, e8, h1⟩ := bind_e h1
  refine sC cal175 (d_stdcost_rate_fits_c e8) ?_
  refine nb tbk h1 fun x9 h1 => ?_
  refine tr tbk 1 (.mk ?_)
  cases x9
  replace h1 := cf h1
  refine tr tbk 2 (.mk ?_)
  refine nb tbk h1 fun x10 h1 => ?_
  refine tr tbk 2 (.mk ?_)
  cases x10
  replace h1 := cf h1
  refine tr tbk 2 (.mk ?_)
  refine nb tbk h1 fun x11 h1 => ?_
  refine tr tbk 2 (.mk ?_)
  exact lf h1 () leA
  replace h1 := ct h1
  refine tr tbk 5 (.mk ?_)
  exact lf h1 () leA
  replace h1 := ct h1
  refine tr tbk 10 (.mk ?_)
  exact lf h1 () leA
  rintro y0_1 _ h0
  cases y0_1
  replace h0 := cf h0
  refine tc tbk 8 (.mk ?_)
  obtain ⟨x12, e12, h0⟩ := bind_e h0
  refine sC cal176 (d_stdcost_rate_of_c e12) ?_
  refine tr tbk 8 (.mk ?_)
  refine jn h0 [0, 4, 6, 7, 8, 11] [1, 2] (fun (a : Bool) (k : Unit) => [(46, boo a)]) (fun a k => []) ⟨fun j13 h1 => ?_, ?_⟩
  refine tc tbk 2 (.mk ?_)
  refine nb tbk h1 fun x14 h1 => ?_
  refine tr tbk 1 (.mk ?_)
  cases x14
  replace h1 := cf h1
  refine tr tbk 2 (.mk ?_)
  refine nb tbk h1 fun x15 h1 => ?_
  refine tr tbk 2 (.mk ?_)
  exact lf h1 () leA
  replace h1 := ct h1
  refine tr tbk 5 (.mk ?_)
  exact lf h1 () leA
  rintro y1_1 _ h0
  cases y1_1
  replace h0 := cf h0
  refine tc tbk 7 (.mk ?_)
  refine ni tbk h0 fun x16 h0 => ?_
  refine tr tbk 6 (.mk ?_)
  refine sS ⟨50, 3, true, true, v4, [[int a2.Qty, int x12.1, int a2.Profit]]⟩ sh3 ?_
  refine tr tbk 5 (.mk ?_)
  obtain ⟨j17, h1, h0⟩ := bind_e h0
  refine rse (Out := fun y H' => (∃ (a : (List GLayer)) (k : Unit), (.inl a) = j17 ∧ y = .tup [lst 3 GLayer.av a, int 0] ∧ H' = hk [(1, ⟨50, 3, true, true, v4, [[int a2.Qty, int x12.1, int a2.Profit]]⟩), (2, ⟨50, 3, false, true, v6, a1.map GLayer.av⟩)]) ∨ (∃ (a : Int) (k : Nat), (.inr (.inl a)) = j17 ∧ y = .tup [.sl 10 k 0 a1.length, int a] ∧ H' = hk [(1, ⟨50, 3, true, true, v4, [[int a2.Qty, int x12.1, int a2.Profit]]⟩), (2, ⟨50, 3, false, true, v6, a1.map GLayer.av⟩), (10, ⟨50, 3, true, true, k, a1.map GLayer.av⟩)]) ∨ (∃ (a : Int) (k : Nat), (.inr (.inr a)) = j17 ∧ y = .tup [.sl 6 k 0 a1.length, int a] ∧ H' = hk [(1, ⟨50, 3, true, true, v4, [[int a2.Qty, int x12.1, int a2.Profit]]⟩), (2, ⟨50, 3, false, true, v6, a1.map GLayer.av⟩), (6, ⟨50, 3, false, true, k, a1.map GLayer.av⟩)])) rfl rfl rfl (yl_call rfl rfl (.cons rfl (.cons rfl .nil)) cal272 ?_) ?_
  refine pcw (c := _) Tryz.func272 rfl rfl ?_; intro Q hret hnorm
  refine tc tbk 2 (.mk ?_)
  refine sB 3 fun v18 => ?_
  refine tr tbk 4 (.mk ?_)
  refine c_drawE [0, 1, 0, 0, 15, 31, 63, 63, 127, 511] (rl [(3, [3])] []) (rl [(4, [])] [3]) (rl [(0, false), (4, false)] true) [2, 3, 0, 1, 4, 5, 6, 7, 8, 9] mixed (by kernel_rfl) ?_; intro K hK
  refine eM ?_
  refine eL sh50 ?_
  obtain ⟨j19, h2, h1⟩ := bind_e h1
  refine de_eff (Out := fun y H' => (∃ (a : Unit) (k : Unit), a = j19 ∧ y = .agg [.fn (.func 267) [] [], .fn (.func 268) [] [], .fn (.func 99) [] []] ∧ H' = hk [(1, ⟨50, 3, true, true, v4, [[int a2.Qty, int x12.1, int a2.Profit]]⟩), (2, ⟨50, 3, true, true, v6, a1.map GLayer.av⟩), (3, ⟨50, 3, true, true, v18, [[int a2.Qty, int x12.1, int a2.Profit]]⟩)])) rfl rfl rfl rfl (yl_call rfl rfl .nil cal274 ?_) (by rintro y _ ⟨_, _, rfl, hc, rfl⟩ <;> exact ⟨rfl, trivial⟩) ?_
  refine pcw (c := _) Tryz.func274 rfl rfl ?_; intro Q hret hnorm
  refine tc tbk 2 (.mk ?_)
  refine sA 4 z277 fun v20 => ?_
  refine tr tbk 4 (.mk ?_)
  refine sS ⟨277, 3, true, true, v20, [[.fn (.func 267) [] [], .fn (.func 268) [] [], .fn (.func 99) [] []]]⟩ sh277 ?_
  refine tr tbk 1 (.mk ?_)
  obtain rfl := nxt_e h2
  refine w_ret (hret _ _ (hk [(1, ⟨50, 3, true, true, v4, [[int a2.Qty, int x12.1, int a2.Profit]]⟩), (2, ⟨50, 3, true, true, v6, a1.map GLayer.av⟩), (3, ⟨50, 3, true, true, v18, [[int a2.Qty, int x12.1, int a2.Profit]]⟩)]) (.cell rfl (.pt rfl rfl rfl) sh277 rfl .nil) (HK.le ⟨rfl, rfl, rfl, trivial⟩) ?_)
  exact ⟨(), (), rfl, rfl, rfl⟩
  rintro y _ ⟨_, _, rfl, hc, rfl⟩
  subst hc
  refine eP (fun H hH => yv_field rfl fp277_0 sh167 rfl rfl) ?_
  obtain ⟨j21, h2, h1⟩ := bind_e h1
  refine de_eff (Out := fun y H' => (∃ (a : (List GLayer)) (k : Nat), (.inl a) = j21 ∧ y = .tup [.sl 7 k 0 a.length, int 0] ∧ H' = hk [(1, ⟨50, 3, true, true, v4, [[int a2.Qty, int x12.1, int a2.Profit]]⟩), (2, ⟨50, 3, false, true, v6, a1.map GLayer.av⟩), (3, ⟨50, 3, true, true, v18, [[int a2.Qty, int x12.1, int a2.Profit]]⟩), (7, ⟨50, 3, true, true, k, a.map GLayer.av⟩)]) ∨ (∃ (a : Int) (k : Nat), (.inr a) = j21 ∧ y = .tup [.sl 6 k 0 a1.length, int a] ∧ H' = hk [(1, ⟨50, 3, true, true, v4, [[int a2.Qty, int x12.1, int a2.Profit]]⟩), (2, ⟨50, 3, false, true, v6, a1.map GLayer.av⟩), (3, ⟨50, 3, true, true, v18, [[int a2.Qty, int x12.1, int a2.Profit]]⟩), (6, ⟨50, 3, false, true, k, a1.map GLayer.av⟩)])) rfl rfl rfl rfl (yl_call rfl rfl (.cons rfl (.cons rfl .nil)) cal267 ?_) (by rintro y _ (⟨y4_2, w4_1, rfl, hc, rfl⟩ | ⟨y5_2, w5_1, rfl, hc, rfl⟩) <;> exact trivial) ?_
  refine pcw (c := _) Tryz.func267 rfl rfl ?_; intro Q hret hnorm
  refine tc tbk 2 (.mk ?_)
  refine sB 5 fun v22 => ?_
  refine tr tbk 6 (.mk ?_)
  obtain ⟨p23, h2⟩ := asrt_e h2
  refine rse rfl rfl rfl (Yield.frz 2 rfl (yl_call rfl rfl (.cons rfl .nil) cal59 (pc_cv (clone59_c (id := 6) (l := a1) rfl p23) (.cons (cv_lst rfl rfl rfl rfl rfl (Eq.symm rfl)) .nil)))) ?_; rintro _ _ ⟨v24, rfl, rfl⟩
  refine rs_freeze 6 rfl ?_
  refine tr tbk 5 (.mk ?_)
  refine jn h2 [0, 3, 4, 5] [1, 2, 3, 5, 6] (fun (a : Bool) (k : Unit) => [(9, boo a)]) (fun a k => []) ⟨fun j25 h3 => ?_, ?_⟩
  refine tc tbk 3 (.mk ?_)
  refine nb tbk h3 fun x26 h3 => ?_
  refine tr tbk 1 (.mk ?_)
  cases x26
  replace h3 := cf h3
  refine tr tbk 2 (.mk ?_)
  refine nb tbk h3 fun x27 h3 => ?_
  refine tr tbk 3 (.mk ?_)
  exact lf h3 () leA
  replace h3 := ct h3
  refine tr tbk 6 (.mk ?_)
  exact lf h3 () leA
  rintro y3_1 _ h2
  cases y3_1
  replace h2 := cf h2
  refine tc tbk 4 (.mk ?_)
  refine sY (yv_len_sl rfl Tryz.underlying39 rfl (.sl rfl rfl)) ?_
  refine nb tbk h2 fun x28 h2 => ?_
  refine tr tbk 2 (.mk ?_)
  cases x28
  replace h2 := cf h2
  refine tc tbk 4 (.mk ?_)
  refine c_drawE [0, 1, 0, 4, 15, 31] (rl [(2, [5])] []) (rl [(4, [])] [5]) (rl [(1, false), (4, false)] true) [0, 2, 3, 1, 4, 5] mixed (by kernel_rfl) ?_; intro K hK
  refine eM ?_
  refine eL sh50 ?_
  refine eP (fun H hH => yv_to (y := lst 3 GLayer.av ([(⟨a2.Qty, x12.1, a2.Profit⟩ : GLayer)] : List GLayer)) (yv_buildSlice (ps := [(0, _)]) (rows := [[int a2.Qty, int x12.1, int a2.Profit]]) rfl Tryz.underlying39 bz50 (.cons rfl .nil) (by kernel_rfl) rfl rfl rfl) rfl) ?_
  obtain ⟨p29, h2⟩ := asrt_e h2
  refine de_eff rfl rfl rfl rfl (yl_call rfl rfl (.cons rfl .nil) cal59 (pc_cv (clone59_c (id := 7) (l := a1) rfl p29) (.cons (cv_lst rfl rfl rfl rfl rfl (Eq.symm rfl)) .nil))) (by rintro _ _ ⟨v30, rfl, rfl⟩; exact ⟨rfl, trivial⟩) ?_; rintro _ _ ⟨v30, rfl, rfl⟩
  obtain ⟨x31, e31, h2⟩ := bnd_e h2
  obtain ⟨p32, h2⟩ := asrt_e h2
  refine de_eff rfl rfl rfl rfl (yl_appT (g := GLayer.av) (l := a1) (m := ([(⟨a2.Qty, x12.1, a2.Profit⟩ : GLayer)] : List GLayer)) .any rfl Tryz.underlying39 bz50 by50 rfl rfl rfl rfl rfl rfl rfl rfl rfl rfl (Eq.symm rfl) (.refl _) (fun _ => rfl) e31 p32) (by rintro _ _ ⟨v33, -, rfl, rfl⟩; exact trivial) ?_; rintro _ _ ⟨v33, -, rfl, rfl⟩
  refine eA ?_
  refine de_nil (hK _ ?_)
  refine tc tbk 4 (.mk ?_)
  obtain ⟨x34, e34, h2⟩ := bind_e h2
  refine sY (yv_callT (v := boo x34) rfl rfl (.cons rfl .nil) cal201 (.cons (cv_lst rfl rfl rfl rfl rfl (Eq.symm rfl)) .nil) (d_fifo_Right_c e34) rfl) ?_
  refine nb tbk h2 fun x35 h2 => ?_
  refine tr tbk 1 (.mk ?_)
  cases x35
  replace h2 := cf h2
  refine tc tbk 8 (.mk ?_)
  obtain rfl := nxt_e h2
  refine w_ret (hret _ _ (hk [(1, ⟨50, 3, true, true, v4, [[int a2.Qty, int x12.1, int a2.Profit]]⟩), (2, ⟨50, 3, false, true, v6, a1.map GLayer.av⟩), (3, ⟨50, 3, true, true, v18, [[int a2.Qty, int x12.1, int a2.Profit]]⟩), (7, ⟨50, 3, true, true, v33, x31.map GLayer.av⟩)]) (.tmp rfl (.tmp rfl .nil)) (HK.le ⟨rfl, rfl, rfl, rfl, trivial⟩) ?_)
  exact (.inl ⟨x31, v33, rfl, rfl, rfl⟩)
  replace h2 := ct h2
  refine tc tbk 7 (.mk ?_)
  obtain rfl := nxt_e h2
  refine w_ret (hret _ _ (hk [(1, ⟨50, 3, true, true, v4, [[int a2.Qty, int x12.1, int a2.Profit]]⟩), (2, ⟨50, 3, false, true, v6, a1.map GLayer.av⟩), (3, ⟨50, 3, true, true, v18, [[int a2.Qty, int x12.1, int a2.Profit]]⟩), (6, ⟨50, 3, false, true, v24, a1.map GLayer.av⟩)]) (.tmp rfl (.tmp rfl .nil)) (HK.le ⟨rfl, rfl, rfl, rfl, trivial⟩) ?_)
  exact (.inr ⟨2, v24, rfl, rfl, rfl⟩)
  replace h2 := ct h2
  refine tc tbk 7 (.mk ?_)
  obtain rfl := nxt_e h2
  refine w_ret (hret _ _ (hk [(1, ⟨50, 3, true, true, v4, [[int a2.Qty, int x12.1, int a2.Profit]]⟩), (2, ⟨50, 3, false, true, v6, a1.map GLayer.av⟩), (3, ⟨50, 3, true, true, v18, [[int a2.Qty, int x12.1, int a2.Profit]]⟩), (6, ⟨50, 3, false, true, v24, a1.map GLayer.av⟩)]) (.tmp rfl (.tmp rfl .nil)) (HK.le ⟨rfl, rfl, rfl, rfl, trivial⟩) ?_)
  exact (.inr ⟨6, v24, rfl, rfl, rfl⟩)
  replace h2 := ct h2
  refine tc tbk 7 (.mk ?_)
  obtain rfl := nxt_e h2
  refine w_ret (hret _ _ (hk [(1, ⟨50, 3, true, true, v4, [[int a2.Qty, int x12.1, int a2.Profit]]⟩), (2, ⟨50, 3, false, true, v6, a1.map GLayer.av⟩), (3, ⟨50, 3, true, true, v18, [[int a2.Qty, int x12.1, int a2.Profit]]⟩), (6, ⟨50, 3, false, true, v24, a1.map GLayer.av⟩)]) (.tmp rfl (.tmp rfl .nil)) (HK.le ⟨rfl, rfl, rfl, rfl, trivial⟩) ?_)
  exact (.inr ⟨1, v24, rfl, rfl, rfl⟩)
  rintro y _ (⟨y4_2, w4_1, rfl, hc, rfl⟩ | ⟨y5_2, w5_1, rfl, hc, rfl⟩)
  replace h1 := selr_l h1
  subst hc
  refine eM ?_
  iterate 2 refine eX ?_
  iterate 2 refine eA ?_
  refine de_nil (hK _ ?_)
  refine tc tbk 4 (.mk ?_)
  refine sY (yv_to (y := boo false) (yv_neq rfl rfl rfl) (congrArg boo (by decide))) ?_
  refine tr tbk 5 (.mk ?_)
  obtain ⟨j36, h2, h1⟩ := bind_e h1
  refine rse (Out := fun y H' => (∃ (a : Unit) (k : Unit), a = j36 ∧ y = .agg [.fn (.func 267) [] [], .fn (.func 268) [] [], .fn (.func 99) [] []] ∧ H' = hk [(1, ⟨50, 3, true, true, v4, [[int a2.Qty, int x12.1, int a2.Profit]]⟩), (2, ⟨50, 3, false, true, v6, a1.map GLayer.av⟩), (3, ⟨50, 3, true, true, v18, [[int a2.Qty, int x12.1, int a2.Profit]]⟩), (7, ⟨50, 3, true, true, w4_1, y4_2.map GLayer.av⟩)])) rfl rfl rfl (yl_call rfl rfl .nil cal274 ?_) ?_
  refine pcw (c := _) Tryz.func274 rfl rfl ?_; intro Q hret hnorm
  refine tc tbk 2 (.mk ?_)
  refine sA 8 z277 fun v37 => ?_
  refine tr tbk 4 (.mk ?_)
  refine sS ⟨277, 3, true, true, v37, [[.fn (.func 267) [] [], .fn (.func 268) [] [], .fn (.func 99) [] []]]⟩ sh277 ?_
  refine tr tbk 1 (.mk ?_)
  obtain rfl := nxt_e h2
  refine w_ret (hret _ _ (hk [(1, ⟨50, 3, true, true, v4, [[int a2.Qty, int x12.1, int a2.Profit]]⟩), (2, ⟨50, 3, false, true, v6, a1.map GLayer.av⟩), (3, ⟨50, 3, true, true, v18, [[int a2.Qty, int x12.1, int a2.Profit]]⟩), (7, ⟨50, 3, true, true, w4_1, y4_2.map GLayer.av⟩)]) (.cell rfl (.pt rfl rfl rfl) sh277 rfl .nil) (HK.le ⟨rfl, rfl, rfl, rfl, trivial⟩) ?_)
  exact ⟨(), (), rfl, rfl, rfl⟩
  rintro y _ ⟨_, _, rfl, hc, rfl⟩
  subst hc
  refine tr tbk 2 (.mk ?_)
  obtain ⟨x38, e38, h1⟩ := bind_e h1
  refine sY (yv_callT (v := .tup [.agg [int x38.1.Qty, int x38.1.Value, int x38.1.Profit], int x38.2]) rfl rfl (.cons rfl .nil) cal99 (.cons (cv_lst rfl rfl rfl rfl rfl (Eq.symm rfl)) .nil) (d_fifo_Total_c e38) rfl) ?_
  refine tr tbk 3 (.mk ?_)
  refine sA 9 z50 fun v39 => ?_
  refine sS ⟨50, 3, true, true, v39, [[int x38.1.Qty, int x38.1.Value, int x38.1.Profit]]⟩ sh50 ?_
  refine tr tbk 6 (.mk ?_)
  refine nb tbk h1 fun x40 h1 => ?_
  refine tr tbk 1 (.mk ?_)
  cases x40
  replace h1 := cf h1
  refine tc tbk 5 (.mk ?_)
  refine sY (yv_to (y := lst 3 GLayer.av ([x38.1] : List GLayer)) (yv_buildSlice (ps := [(0, _)]) (rows := [[int x38.1.Qty, int x38.1.Value, int x38.1.Profit]]) rfl Tryz.underlying39 bz50 (.cons rfl .nil) (by kernel_rfl) rfl rfl rfl) rfl) ?_
  refine tr tbk 3 (.mk ?_)
  obtain rfl := nxt_e h1
  refine w_ret (hret _ _ (hk [(1, ⟨50, 3, true, true, v4, [[int a2.Qty, int x12.1, int a2.Profit]]⟩), (2, ⟨50, 3, false, true, v6, a1.map GLayer.av⟩)]) (.tmp rfl (.tmp rfl .nil)) (HK.le ⟨rfl, rfl, trivial⟩) ?_)
  exact (.inl ⟨([x38.1] : List GLayer), (), rfl, rfl, rfl⟩)
  replace h1 := ct h1
  refine tc tbk 4 (.mk ?_)
  obtain ⟨p41, h1⟩ := asrt_e h1
  refine rse rfl rfl rfl (yl_app0T (g := GLayer.av) (m := a1) 10 rfl Tryz.underlying39 bz50 by50 rfl rfl rfl rfl (cv_lst rfl rfl rfl rfl rfl (Eq.symm rfl)) (fun _ => rfl) p41) ?_; rintro _ _ ⟨v42, rfl, rfl⟩
  refine tr tbk 4 (.mk ?_)
  obtain rfl := nxt_e h1
  refine w_ret (hret _ _ (hk [(1, ⟨50, 3, true, true, v4, [[int a2.Qty, int x12.1, int a2.Profit]]⟩), (2, ⟨50, 3, false, true, v6, a1.map GLayer.av⟩), (10, ⟨50, 3, true, true, v42, a1.map GLayer.av⟩)]) (.tmp rfl (.tmp rfl .nil)) (HK.le ⟨rfl, rfl, rfl, trivial⟩) ?_)
  exact (.inr (.inl ⟨x38.2, v42, rfl, rfl, rfl⟩))
  replace h1 := selr_r h1
  subst hc
  refine eM ?_
  iterate 2 refine eX ?_
  iterate 2 refine eA ?_
  refine de_nil (hK _ ?_)
  refine tc tbk 4 (.mk ?_)
  refine nb tbk h1 fun x43 h1 => ?_
  refine tr tbk 1 (.mk ?_)
  cases x43
  replace h1 := cf h1
  refine tc tbk 4 (.mk ?_)
  obtain ⟨j44, h2, h1⟩ := bind_e h1
  refine rse (Out := fun y H' => (∃ (a : Unit) (k : Unit), a = j44 ∧ y = .agg [.fn (.func 267) [] [], .fn (.func 268) [] [], .fn (.func 99) [] []] ∧ H' = hk [(1, ⟨50, 3, true, true, v4, [[int a2.Qty, int x12.1, int a2.Profit]]⟩), (2, ⟨50, 3, false, true, v6, a1.map GLayer.av⟩), (3, ⟨50, 3, true, true, v18, [[int a2.Qty, int x12.1, int a2.Profit]]⟩), (6, ⟨50, 3, false, true, w5_1, a1.map GLayer.av⟩)])) rfl rfl rfl (yl_call rfl rfl .nil cal274 ?_) ?_
  refine pcw (c := _) Tryz.func274 rfl rfl ?_; intro Q hret hnorm
  refine tc tbk 2 (.mk ?_)
  refine sA 8 z277 fun v45 => ?_
  refine tr tbk 4 (.mk ?_)
  refine sS ⟨277, 3, true, true, v45, [[.fn (.func 267) [] [], .fn (.func 268) [] [], .fn (.func 99) [] []]]⟩ sh277 ?_
  refine tr tbk 1 (.mk ?_)
  obtain rfl := nxt_e h2
  refine w_ret (hret _ _ (hk [(1, ⟨50, 3, true, true, v4, [[int a2.Qty, int x12.1, int a2.Profit]]⟩), (2, ⟨50, 3, false, true, v6, a1.map GLayer.av⟩), (3, ⟨50, 3, true, true, v18, [[int a2.Qty, int x12.1, int a2.Profit]]⟩), (6, ⟨50, 3, false, true, w5_1, a1.map GLayer.av⟩)]) (.cell rfl (.pt rfl rfl rfl) sh277 rfl .nil) (HK.le ⟨rfl, rfl, rfl, rfl, trivial⟩) ?_)
  exact ⟨(), (), rfl, rfl, rfl⟩
  rintro y _ ⟨_, _, rfl, hc, rfl⟩
  subst hc
  refine tr tbk 2 (.mk ?_)
  obtain ⟨x46, e46, h1⟩ := bind_e h1
  refine sY (yv_callP rfl rfl (.cons rfl .nil) cal99 (.cons (cv_lst rfl rfl rfl rfl rfl (Eq.symm rfl)) .nil) (d_fifo_Total_c e46)) ?_
  refine tr tbk 3 (.mk ?_)
  refine sA 9 z50 fun v47 => ?_
  refine sS ⟨50, 3, true, true, v47, [[int x46.1.Qty, int x46.1.Value, int x46.1.Profit]]⟩ sh50 ?_
  refine tr tbk 6 (.mk ?_)
  refine nb tbk h1 fun x48 h1 => ?_
  refine tr tbk 1 (.mk ?_)
  cases x48
  replace h1 := cf h1
  refine tc tbk 5 (.mk ?_)
  refine sY (yv_to (y := lst 3 GLayer.av ([x46.1] : List GLayer)) (yv_buildSlice (ps := [(0, _)]) (rows := [[int x46.1.Qty, int x46.1.Value, int x46.1.Profit]]) rfl Tryz.underlying39 bz50 (.cons rfl .nil) (by kernel_rfl) rfl rfl rfl) rfl) ?_
  refine tr tbk 3 (.mk ?_)
  obtain rfl := nxt_e h1
  refine w_ret (hret _ _ (hk [(1, ⟨50, 3, true, true, v4, [[int a2.Qty, int x12.1, int a2.Profit]]⟩), (2, ⟨50, 3, false, true, v6, a1.map GLayer.av⟩)]) (.tmp rfl (.tmp rfl .nil)) (HK.le ⟨rfl, rfl, trivial⟩) ?_)
  exact (.inl ⟨([x46.1] : List GLayer), (), rfl, rfl, rfl⟩)
  replace h1 := ct h1
  refine tc tbk 4 (.mk ?_)
  obtain ⟨p49, h1⟩ := asrt_e h1
  refine rse rfl rfl rfl (yl_app0T (g := GLayer.av) (m := a1) 10 rfl Tryz.underlying39 bz50 by50 rfl rfl rfl rfl (cv_lst rfl rfl rfl rfl rfl (Eq.symm rfl)) (fun _ => rfl) p49) ?_; rintro _ _ ⟨v50, rfl, rfl⟩
  refine tr tbk 4 (.mk ?_)
  obtain rfl := nxt_e h1
  refine w_ret (hret _ _ (hk [(1, ⟨50, 3, true, true, v4, [[int a2.Qty, int x12.1, int a2.Profit]]⟩), (2, ⟨50, 3, false, true, v6, a1.map GLayer.av⟩), (10, ⟨50, 3, true, true, v50, a1.map GLayer.av⟩)]) (.tmp rfl (.tmp rfl .nil)) (HK.le ⟨rfl, rfl, rfl, trivial⟩) ?_)
  exact (.inr (.inl ⟨x46.2, v50, rfl, rfl, rfl⟩))
  replace h1 := ct h1
  refine tc tbk 8 (.mk ?_)
  obtain rfl := nxt_e h1
  refine w_ret (hret _ _ (hk [(1, ⟨50, 3, true, true, v4, [[int a2.Qty, int x12.1, int a2.Profit]]⟩), (2, ⟨50, 3, false, true, v6, a1.map GLayer.av⟩), (6, ⟨50, 3, false, true, w5_1, a1.map GLayer.av⟩)]) (.tmp rfl (.tmp rfl .nil)) (HK.le ⟨rfl, rfl, rfl, trivial⟩) ?_)
  exact (.inr (.inr ⟨y5_2, w5_1, rfl, rfl, rfl⟩))
  rintro y _ (⟨y10_1, _, rfl, hc, rfl⟩ | ⟨y11_2, w11_1, rfl, hc, rfl⟩ | ⟨y12_2, w12_1, rfl, hc, rfl⟩)
  replace h0 := selr_l h0
  subst hc
  refine tr tbk 10 (.mk ?_)
  refine sY (yv_to (y := boo false) (yv_neq rfl rfl rfl) (congrArg boo (by decide))) ?_
  refine tr tbk 11 (.mk ?_)
  obtain rfl := nxt_e h0
  refine wR hret (rT (rT (rT .nil))) ?_
  exact .refl _
  replace h0 := selr_r h0
  replace h0 := selr_l h0
  subst hc
  refine tr tbk 10 (.mk ?_)
  refine nb tbk h0 fun x51 h0 => ?_
  refine tr tbk 1 (.mk ?_)
  cases x51
  replace h0 := cf h0
  refine tc tbk 10 (.mk ?_)
  obtain rfl := nxt_e h0
  refine wR hret (rT (rT (rT .nil))) ?_
  exact CvL.tup (.cons (cv_lst rfl rfl rfl rfl rfl (Eq.symm rfl)) (.cons (.refl _) (.cons (.refl _) .nil)))
  replace h0 := ct h0
  refine tc tbk 9 (.mk ?_)
  obtain rfl := nxt_e h0
  refine wR hret (rT (rT (rT .nil))) ?_
  exact CvL.tup (.cons (cv_lst rfl rfl rfl rfl rfl (Eq.symm rfl)) (.cons (.refl _) (.cons (.refl _) .nil)))
  replace h0 := selr_r h0
  replace h0 := selr_r h0
  subst hc
  refine tr tbk 10 (.mk ?_)
  refine nb tbk h0 fun x52 h0 => ?_
  refine tr tbk 1 (.mk ?_)
  cases x52
  replace h0 := cf h0
  refine tc tbk 10 (.mk ?_)
  obtain rfl := nxt_e h0
  refine wR hret (rT (rT (rT .nil))) ?_
  exact CvL.tup (.cons (cv_lst rfl rfl rfl rfl rfl (Eq.symm rfl)) (.cons (.refl _) (.cons (.refl _) .nil)))
  replace h0 := ct h0
  refine tc tbk 9 (.mk ?_)
  obtain rfl := nxt_e h0
  refine wR hret (rT (rT (rT .nil))) ?_
  exact CvL.tup (.cons (cv_lst rfl rfl rfl rfl rfl (Eq.symm rfl)) (.cons (.refl _) (.cons (.refl _) .nil)))
  replace h0 := ct h0
  refine tc tbk 8 (.mk ?_)
  obtain rfl := nxt_e h0
  refine wR hret (rT (rT (rT .nil))) ?_
  exact CvL.tup (.cons (cv_lst rfl rfl rfl rfl rfl (Eq.symm rfl)) (.cons (.refl _) (.cons (.refl _) .nil)))
  replace h0 := ct h0
  refine tc tbk 8 (.mk ?_)
  obtain rfl := nxt_e h0
  refine wR hret (rT (rT (rT .nil))) ?_
  exact CvL.tup (.cons (cv_lst rfl rfl rfl rfl rfl (Eq.symm rfl)) (.cons (.refl _) (.cons (.refl _) .nil)))
def d_pavg_own (a1 : GPool) (a2 : List GLayer) : Option (GPool) :=
asrt (a2.length ≤ 68719476736) <|
some (((⟨a2, a1.Pend⟩ : GPool) : GPool))
theorem d_pavg_own_c {a1 : GPool} {a2 : List GLayer} {r : GPool} (h0 : d_pavg_own a1 a2 = some r) : PP Tryz.prog 147 [.agg (GPool.av a1), lst 3 GLayer.av a2] (fun y => y = .agg (GPool.av r)) := by
  unfold d_pavg_own at h0
  refine pp_of_pc (R0 := fun y H => Cv (frzH H) y (.agg (GPool.av r))) ?_ (fun y H hc => ⟨_, rfl, (fun (a : GPool) => PV.agg (GPool.pvc a)) r, hc⟩)
  refine pcw (c := _) Tryz.func147 rfl rfl ?_; intro Q hret hnorm
  refine tc tbk 2 (.mk ?_)
  refine sB 1 fun v3 => ?_
  refine sA 2 z42 fun v4 => ?_
  refine tr tbk 4 (.mk ?_)
  obtain ⟨p5, h0⟩ := asrt_e h0
  refine rse rfl rfl rfl (yl_app0T (g := GLayer.av) (m := a2) 3 rfl Tryz.underlying39 bz50 by50 rfl rfl rfl rfl (.refl _) (fun _ => rfl) p5) ?_; rintro _ _ ⟨v6, rfl, rfl⟩
  refine tr tbk 1 (.mk ?_)
  refine sS ⟨42, 4, true, true, v3, [[.sl 3 v6 0 a2.length, int a1.Pend.a0, int a1.Pend.a1, int a1.Pend.a2]]⟩ sh39 ?_
  refine tr tbk 4 (.mk ?_)
  refine sS ⟨42, 4, true, true, v4, [[.sl 3 v6 0 a2.length, int a1.Pend.a0, int a1.Pend.a1, int a1.Pend.a2]]⟩ sh42 ?_
  refine tr tbk 1 (.mk ?_)
  obtain rfl := nxt_e h0
  refine wR hret (rC sh42 .nil) ?_
  exact (CvL.agg (.cons (cv_lst rfl rfl rfl rfl rfl (Eq.symm rfl)) (.cons (.refl _) (.cons (.refl _) (.cons (.refl _) .nil)))))
def d_pavg_In (n : Nat) (a1 : GPool) (a2 : GLayer) : Option (GPool × Int) :=
(d_mavg_In n a1.Layers a2).bind fun x6 =>
(d_pavg_own a1 x6.1).bind fun x7 =>
some ((x7 : GPool), (x6.2 : Int))
theorem d_pavg_In_c {n : Nat} {a1 : GPool} {a2 : GLayer} {r : GPool × Int} (h0 : d_pavg_In n a1 a2 = some r) : PP Tryz.prog 277 [.agg (GPool.av a1), .agg (GLayer.av a2)] (fun y => y = .tup [.agg (GPool.av r.1), int r.2]) := by
  unfold d_pavg_In at h0
  refine pp_of_pc (R0 := fun y H => Cv (frzH H) y (.tup [.agg (GPool.av r.1), int r.2])) ?_ (fun y H hc => ⟨_, rfl, .tup (pvl2 ((fun (a : GPool) => PV.agg (GPool.pvc a)) (r.1)) (pvI (r.2))), hc⟩)
  refine pcw (c := _) Tryz.func277 rfl rfl ?_; intro Q hret hnorm
  refine tc tbk 2 (.mk ?_)
  refine sB 1 fun v3 => ?_
  refine sB 2 fun v4 => ?_
  refine sA 3 z42 fun v5 => ?_
  refine tr tbk 7 (.mk ?_)
  obtain ⟨x6, e6, h0⟩ := bind_e h0
  refine sC cal272 (d_mavg_In_c e6) ?_
  refine tr tbk 10 (.mk ?_)
  obtain ⟨x7, e7, h0⟩ := bind_e h0
  refine sC cal147 (d_pavg_own_c e7) ?_
  refine tr tbk 1 (.mk ?_)
  refine sS ⟨42, 4, true, true, v5, [[lst 3 GLayer.av x7.Layers, int x7.Pend.a0, int x7.Pend.a1, int x7.Pend.a2]]⟩ sh42 ?_
  refine tr tbk 2 (.mk ?_)
  obtain rfl := nxt_e h0
  refine wR hret (rC sh42 (rT .nil)) ?_
  exact .refl _
def d_pool_In (n : Nat) (a1 : Int) (a2 : Int) (a3 : GPool) (a4 : GLayer) : Option (GPool × Int × Int) :=
(show Option ((Unit) ⊕ (Unit) ⊕ (Unit) ⊕ (Unit) ⊕ (Unit)) from
bnd (decide (a1 = 1)) fun x9 =>
cond x9 (some (.inr (.inr (.inr (.inr ()))))) (bnd (decide (a1 = 2)) fun x10 =>
cond x10 (some (.inr (.inr (.inr (.inl ()))))) (bnd (decide (a1 = 3)) fun x11 =>
cond x11 (some (.inr (.inr (.inl ())))) (bnd (decide (a1 = 4)) fun x12 =>
cond x12 (some (.inr (.inl ()))) (some (.inl ())))))).bind <| selr (fun _ =>
(d_pool_own a3).bind fun x13 =>
some ((x13 : GPool), (0 : Int), (12 : Int))) <| selr (fun _ =>
(show Option ((GPool × Int × Int)) from
(d_stdcost_In n a3.Layers a4 a2).bind fun x19 =>
(d_pool_with a3 x19.1).bind fun x20 =>
some ((x20 : GPool), (x19.2.1 : Int), (x19.2.2 : Int))).bind <| p2 fun (y5_1 : GPool) (q0 : Int × Int) => (p2 fun (y5_2 : Int) (y5_3 : Int) =>
bnd (decide (y5_3 ≠ 0)) fun x22 =>
cond x22 ((d_pool_own a3).bind fun x23 =>
some ((x23 : GPool), (0 : Int), (y5_3 : Int))) (some ((y5_1 : GPool), (y5_2 : Int), (0 : Int)))) q0) <| selr (fun _ =>
(show Option ((GPool × Int)) from
(d_pavg_In n a3 a4).bind fun x29 =>
some ((x29.1 : GPool), (x29.2 : Int))).bind <| p2 fun (y6_1 : GPool) (y6_2 : Int) =>
bnd (decide (y6_2 ≠ 0)) fun x31 =>
cond x31 ((d_pool_own a3).bind fun x32 =>
some ((x32 : GPool), (0 : Int), (y6_2 : Int))) (some ((y6_1 : GPool), (0 : Int), (0 : Int)))) <| selr (fun _ =>
(show Option ((GPool × Int)) from
(d_mavg_In n a3.Layers a4).bind fun x38 =>
(d_pool_with a3 x38.1).bind fun x39 =>
some ((x39 : GPool), (x38.2 : Int))).bind <| p2 fun (y7_1 : GPool) (y7_2 : Int) =>
bnd (decide (y7_2 ≠ 0)) fun x41 =>
cond x41 ((d_pool_own a3).bind fun x42 =>
some ((x42 : GPool), (0 : Int), (y7_2 : Int))) (some ((y7_1 : GPool), (0 : Int), (0 : Int)))) <| fun _ =>
(show Option ((GPool × Int)) from
(d_fifo_In n a3.Layers a4).bind fun x48 =>
(d_pool_with a3 x48.1).bind fun x49 =>
some ((x49 : GPool), (x48.2 : Int))).bind <| p2 fun (y8_1 : GPool) (y8_2 : Int) =>
bnd (decide (y8_2 ≠ 0)) fun x51 =>
cond x51 ((d_pool_own a3).bind fun x52 =>
some ((x52 : GPool), (0 : Int), (y8_2 : Int))) (some ((y8_1 : GPool), (0 : Int), (0 : Int)))
theorem d_pool_In_c {n : Nat} {a1 : Int} {a2 : Int} {a3 : GPool} {a4 : GLayer} {r : GPool × Int × Int} (h0 : d_pool_In n a1 a2 a3 a4 = some r) : PP Tryz.prog 47 [int a1, int a2, .agg (GPool.av a3), .agg (GLayer.av a4)] (fun y => y = .tup [.agg (GPool.av r.1), int r.2.1, int r.2.2]) := by
  unfold d_pool_In at h0
  refine pp_of_pc (R0 := fun y H => Cv (frzH H) y (.tup [.agg (GPool.av r.1), int r.2.1, int r.2.2])) ?_ (fun y H hc => ⟨_, rfl, .tup (pvl3 ((fun (a : GPool) => PV.agg (GPool.pvc a)) (r.1)) (pvI (r.2.1)) (pvI (r.2.2))), hc⟩)
  refine pcw (c := _) Tryz.func47 rfl rfl ?_; intro Q hret hnorm
  refine tc tbk 2 (.mk ?_)
  refine sB 1 fun v5 => ?_
  refine sB 2 fun v6 => ?_
  refine sA 3 z42 fun v7 => ?_
  refine tr tbk 7 (.mk ?_)
  obtain ⟨j8, h1, h0⟩ := bind_e h0
  refine rse (Out := fun y H' => (∃ (a : Unit) (k : Unit), (.inl a) = j8 ∧ y = .sc .nilIface ∧ H' = hk [(1, ⟨42, 4, true, true, v5, [[lst 3 GLayer.av a3.Layers, int a3.Pend.a0, int a3.Pend.a1, int a3.Pend.a2]]⟩), (2, ⟨50, 3, true, true, v6, [[int a4.Qty, int a4.Value, int a4.Profit]]⟩), (3, ⟨42, 4, true, true, v7, [[.sc (.slice none 0 0), int 0, int 0, int 0]]⟩)]) ∨ (∃ (a : Unit) (k : Unit), (.inr (.inl a)) = j8 ∧ y = .ifc 193 (.agg [int a2]) ∧ H' = hk [(1, ⟨42, 4, true, true, v5, [[lst 3 GLayer.av a3.Layers, int a3.Pend.a0, int a3.Pend.a1, int a3.Pend.a2]]⟩), (2, ⟨50, 3, true, true, v6, [[int a4.Qty, int a4.Value, int a4.Profit]]⟩), (3, ⟨42, 4, true, true, v7, [[.sc (.slice none 0 0), int 0, int 0, int 0]]⟩)]) ∨ (∃ (a : Unit) (k : Unit), (.inr (.inr (.inl a))) = j8 ∧ y = .ifc 191 (.agg []) ∧ H' = hk [(1, ⟨42, 4, true, true, v5, [[lst 3 GLayer.av a3.Layers, int a3.Pend.a0, int a3.Pend.a1, int a3.Pend.a2]]⟩), (2, ⟨50, 3, true, true, v6, [[int a4.Qty, int a4.Value, int a4.Profit]]⟩), (3, ⟨42, 4, true, true, v7, [[.sc (.slice none 0 0), int 0, int 0, int 0]]⟩)]) ∨ (∃ (a : Unit) (k : Unit), (.inr (.inr (.inr (.inl a)))) = j8 ∧ y = .ifc 190 (.agg []) ∧ H' = hk [(1, ⟨42, 4, true, true, v5, [[lst 3 GLayer.av a3.Layers, int a3.Pend.a0, int a3.Pend.a1, int a3.Pend.a2]]⟩), (2, ⟨50, 3, true, true, v6, [[int a4.Qty, int a4.Value, int a4.Profit]]⟩), (3, ⟨42, 4, true, true, v7, [[.sc (.slice none 0 0), int 0, int 0, int 0]]⟩)]) ∨ (∃ (a : Unit) (k : Unit), (.inr (.inr (.inr (.inr a)))) = j8 ∧ y = .ifc 189 (.agg []) ∧ H' = hk [(1, ⟨42, 4, true, true, v5, [[lst 3 GLayer.av a3.Layers, int a3.Pend.a0, int a3.Pend.a1, int a3.Pend.a2]]⟩), (2, ⟨50, 3, true, true, v6, [[int a4.Qty, int a4.Value, int a4.Profit]]⟩), (3, ⟨42, 4, true, true, v7, [[.sc (.slice none 0 0), int 0, int 0, int 0]]⟩)])) rfl rfl rfl (yl_call rfl rfl (.cons rfl (.cons rfl .nil)) cal95 ?_) ?_
  refine pcw (c := _) Tryz.func95 rfl rfl ?_; intro Q hret hnorm
  refine tc tbk 12 (.mk ?_)
  refine nb tbk h1 fun x9 h1 => ?_
  refine tr tbk 2 (.mk ?_)
  cases x9
  replace h1 := cf h1
  refine tc tbk 3 (.mk ?_)
  refine nb tbk h1 fun x10 h1 => ?_
  refine tr tbk 2 (.mk ?_)
  cases x10
  replace h1 := cf h1
  refine tc tbk 3 (.mk ?_)
  refine nb tbk h1 fun x11 h1 => ?_
  refine tr tbk 2 (.mk ?_)
  cases x11
  replace h1 := cf h1
  refine tc tbk 3 (.mk ?_)
  refine nb tbk h1 fun x12 h1 => ?_
  refine tr tbk 2 (.mk ?_)
  cases x12
  replace h1 := cf h1
  refine tc tbk 7 (.mk ?_)
  obtain rfl := nxt_e h1
  refine w_ret (hret _ _ (hk [(1, ⟨42, 4, true, true, v5, [[lst 3 GLayer.av a3.Layers, int a3.Pend.a0, int a3.Pend.a1, int a3.Pend.a2]]⟩), (2, ⟨50, 3, true, true, v6, [[int a4.Qty, int a4.Value, int a4.Profit]]⟩), (3, ⟨42, 4, true, true, v7, [[.sc (.slice none 0 0), int 0, int 0, int 0]]⟩)]) (.tmp rfl .nil) (HK.le ⟨rfl, rfl, rfl, trivial⟩) ?_)
  exact (.inl ⟨(), (), rfl, rfl, rfl⟩)
  replace h1 := ct h1
  refine tc tbk 5 (.mk ?_)
  refine sY (yv_makeIface rfl Tryz.underlying193 (by intro _ h; cases h) rfl) ?_
  refine tr tbk 2 (.mk ?_)
  obtain rfl := nxt_e h1
  refine w_ret (hret _ _ (hk [(1, ⟨42, 4, true, true, v5, [[lst 3 GLayer.av a3.Layers, int a3.Pend.a0, int a3.Pend.a1, int a3.Pend.a2]]⟩), (2, ⟨50, 3, true, true, v6, [[int a4.Qty, int a4.Value, int a4.Profit]]⟩), (3, ⟨42, 4, true, true, v7, [[.sc (.slice none 0 0), int 0, int 0, int 0]]⟩)]) (.tmp rfl .nil) (HK.le ⟨rfl, rfl, rfl, trivial⟩) ?_)
  exact (.inr (.inl ⟨(), (), rfl, rfl, rfl⟩))
  replace h1 := ct h1
  refine tc tbk 4 (.mk ?_)
  refine sY (yv_makeIface rfl Tryz.underlying191 (by intro _ h; cases h) rfl) ?_
  refine tr tbk 2 (.mk ?_)
  obtain rfl := nxt_e h1
  refine w_ret (hret _ _ (hk [(1, ⟨42, 4, true, true, v5, [[lst 3 GLayer.av a3.Layers, int a3.Pend.a0, int a3.Pend.a1, int a3.Pend.a2]]⟩), (2, ⟨50, 3, true, true, v6, [[int a4.Qty, int a4.Value, int a4.Profit]]⟩), (3, ⟨42, 4, true, true, v7, [[.sc (.slice none 0 0), int 0, int 0, int 0]]⟩)]) (.tmp rfl .nil) (HK.le ⟨rfl, rfl, rfl, trivial⟩) ?_)
  exact (.inr (.inr (.inl ⟨(), (), rfl, rfl, rfl⟩)))
  replace h1 := ct h1
  refine tc tbk 4 (.mk ?_)
  refine sY (yv_makeIface rfl Tryz.underlying190 (by intro _ h; cases h) rfl) ?_
  refine tr tbk 2 (.mk ?_)
  obtain rfl := nxt_e h1
  refine w_ret (hret _ _ (hk [(1, ⟨42, 4, true, true, v5, [[lst 3 GLayer.av a3.Layers, int a3.Pend.a0, int a3.Pend.a1, int a3.Pend.a2]]⟩), (2, ⟨50, 3, true, true, v6, [[int a4.Qty, int a4.Value, int a4.Profit]]⟩), (3, ⟨42, 4, true, true, v7, [[.sc (.slice none 0 0), int 0, int 0, int 0]]⟩)]) (.tmp rfl .nil) (HK.le ⟨rfl, rfl, rfl, trivial⟩) ?_)
  exact (.inr (.inr (.inr (.inl ⟨(), (), rfl, rfl, rfl⟩))))
  replace h1 := ct h1
  refine tc tbk 4 (.mk ?_)
  refine sY (yv_makeIface rfl Tryz.underlying189 (by intro _ h; cases h) rfl) ?_
  refine tr tbk 2 (.mk ?_)
  obtain rfl := nxt_e h1
  refine w_ret (hret _ _ (hk [(1, ⟨42, 4, true, true, v5, [[lst 3 GLayer.av a3.Layers, int a3.Pend.a0, int a3.Pend.a1, int a3.Pend.a2]]⟩), (2, ⟨50, 3, true, true, v6, [[int a4.Qty, int a4.Value, int a4.Profit]]⟩), (3, ⟨42, 4, true, true, v7, [[.sc (.slice none 0 0), int 0, int 0, int 0]]⟩)]) (.tmp rfl .nil) (HK.le ⟨rfl, rfl, rfl, trivial⟩) ?_)
  exact (.inr (.inr (.inr (.inr ⟨(), (), rfl, rfl, rfl⟩))))
  rintro y _ (⟨_, _, rfl, hc, rfl⟩ | ⟨_, _, rfl, hc, rfl⟩ | ⟨_, _, rfl, hc, rfl⟩ | ⟨_, _, rfl, hc, rfl⟩ | ⟨_, _, rfl, hc, rfl⟩)
  replace h0 := selr_l h0
  subst hc
  refine tr tbk 6 (.mk ?_)
  refine sY (yv_ifeqN rfl Tryz.underlying135 rfl rfl) ?_
  refine tr tbk 5 (.mk ?_)
  obtain ⟨x13, e13, h0⟩ := bind_e h0
  refine sC cal96 (d_pool_own_c e13) ?_
  refine sS ⟨42, 4, true, true, v7, [[lst 3 GLayer.av x13.Layers, int x13.Pend.a0, int x13.Pend.a1, int x13.Pend.a2]]⟩ sh42 ?_
  refine tr tbk 3 (.mk ?_)
  obtain rfl := nxt_e h0
  refine wR hret (rC sh42 (rT (rT .nil))) ?_
  exact .refl _
  replace h0 := selr_r h0
  replace h0 := selr_l h0
  subst hc
  refine tr tbk 6 (.mk ?_)
  refine sY (yv_ifeq rfl Tryz.underlying135 rfl rfl) ?_
  refine tr tbk 8 (.mk ?_)
  obtain ⟨j14, h1, h0⟩ := bind_e h0
  refine rse (Out := fun y H' => (∃ (a : GPool × Int × Int) (k : Unit), a = j14 ∧ y = .tup [.agg [lst 3 GLayer.av a.1.Layers, int a.1.Pend.a0, int a.1.Pend.a1, int a.1.Pend.a2], int a.2.1, int a.2.2] ∧ H' = hk [(1, ⟨42, 4, true, true, v5, [[lst 3 GLayer.av a3.Layers, int a3.Pend.a0, int a3.Pend.a1, int a3.Pend.a2]]⟩), (2, ⟨50, 3, true, true, v6, [[int a4.Qty, int a4.Value, int a4.Profit]]⟩), (3, ⟨42, 4, true, true, v7, [[.sc (.slice none 0 0), int 0, int 0, int 0]]⟩)])) rfl rfl rfl (yl_callI rfl rfl mth193_279 (.cons rfl (.cons rfl .nil)) cal279 ?_) ?_
  refine pcw (c := _) Tryz.func279 rfl rfl ?_; intro Q hret hnorm
  refine tc tbk 2 (.mk ?_)
  refine sB 4 fun v15 => ?_
  refine sB 5 fun v16 => ?_
  refine sB 6 fun v17 => ?_
  refine sA 7 z42 fun v18 => ?_
  refine tr tbk 10 (.mk ?_)
  obtain ⟨x19, e19, h1⟩ := bind_e h1
  refine sC cal281 (d_stdcost_In_c e19) ?_
  refine tr tbk 12 (.mk ?_)
  obtain ⟨x20, e20, h1⟩ := bind_e h1
  refine sC cal146 (d_pool_with_c e20) ?_
  refine tr tbk 2 (.mk ?_)
  refine sS ⟨42, 4, true, true, v18, [[lst 3 GLayer.av x20.Layers, int x20.Pend.a0, int x20.Pend.a1, int x20.Pend.a2]]⟩ sh42 ?_
  refine tr tbk 3 (.mk ?_)
  obtain rfl := nxt_e h1
  refine w_ret (hret _ _ (hk [(1, ⟨42, 4, true, true, v5, [[lst 3 GLayer.av a3.Layers, int a3.Pend.a0, int a3.Pend.a1, int a3.Pend.a2]]⟩), (2, ⟨50, 3, true, true, v6, [[int a4.Qty, int a4.Value, int a4.Profit]]⟩), (3, ⟨42, 4, true, true, v7, [[.sc (.slice none 0 0), int 0, int 0, int 0]]⟩)]) (.cell rfl (.pt rfl rfl rfl) sh42 rfl (.tmp rfl (.tmp rfl .nil))) (HK.le ⟨rfl, rfl, rfl, trivial⟩) ?_)
  exact ⟨(x20, x19.2.1, x19.2.2), (), rfl, rfl, rfl⟩
  rintro y _ ⟨⟨y5_1, y5_2, y5_3⟩, _, rfl, hc, rfl⟩
  replace h0 := p2_e h0
  replace h0 := p2_e h0
  subst hc
  refine tr tbk 4 (.mk ?_)
  refine sA 8 z42 fun v21 => ?_
  refine sS ⟨42, 4, true, true, v21, [[lst 3 GLayer.av y5_1.Layers, int y5_1.Pend.a0, int y5_1.Pend.a1, int y5_1.Pend.a2]]⟩ sh42 ?_
  refine tr tbk 7 (.mk ?_)
  refine nb tbk h0 fun x22 h0 => ?_
  refine tr tbk 1 (.mk ?_)
  cases x22
  replace h0 := cf h0
  refine tc tbk 6 (.mk ?_)
  refine sS ⟨42, 4, true, true, v7, [[lst 3 GLayer.av y5_1.Layers, int y5_1.Pend.a0, int y5_1.Pend.a1, int y5_1.Pend.a2]]⟩ sh42 ?_
  refine tr tbk 3 (.mk ?_)
  obtain rfl := nxt_e h0
  refine wR hret (rC sh42 (rT (rT .nil))) ?_
  exact .refl _
  replace h0 := ct h0
  refine tc tbk 4 (.mk ?_)
  obtain ⟨x23, e23, h0⟩ := bind_e h0
  refine sC cal96 (d_pool_own_c e23) ?_
  refine tr tbk 1 (.mk ?_)
  refine sS ⟨42, 4, true, true, v7, [[lst 3 GLayer.av x23.Layers, int x23.Pend.a0, int x23.Pend.a1, int x23.Pend.a2]]⟩ sh42 ?_
  refine tr tbk 3 (.mk ?_)
  obtain rfl := nxt_e h0
  refine wR hret (rC sh42 (rT (rT .nil))) ?_
  exact .refl _
  replace h0 := selr_r h0
  replace h0 := selr_r h0
  replace h0 := selr_l h0
  subst hc
  refine tr tbk 6 (.mk ?_)
  refine sY (yv_ifeq rfl Tryz.underlying135 rfl rfl) ?_
  refine tr tbk 8 (.mk ?_)
  obtain ⟨j24, h1, h0⟩ := bind_e h0
  refine rse (Out := fun y H' => (∃ (a : GPool × Int) (k : Unit), a = j24 ∧ y = .tup [.agg [lst 3 GLayer.av a.1.Layers, int a.1.Pend.a0, int a.1.Pend.a1, int a.1.Pend.a2], int 0, int a.2] ∧ H' = hk [(1, ⟨42, 4, true, true, v5, [[lst 3 GLayer.av a3.Layers, int a3.Pend.a0, int a3.Pend.a1, int a3.Pend.a2]]⟩), (2, ⟨50, 3, true, true, v6, [[int a4.Qty, int a4.Value, int a4.Profit]]⟩), (3, ⟨42, 4, true, true, v7, [[.sc (.slice none 0 0), int 0, int 0, int 0]]⟩)])) rfl rfl rfl (yl_callI rfl rfl mth191_275 (.cons rfl (.cons rfl .nil)) cal275 ?_) ?_
  refine pcw (c := _) Tryz.func275 rfl rfl ?_; intro Q hret hnorm
  refine tc tbk 2 (.mk ?_)
  refine sB 9 fun v25 => ?_
  refine sB 10 fun v26 => ?_
  refine sB 11 fun v27 => ?_
  refine sA 12 z42 fun v28 => ?_
  refine tr tbk 7 (.mk ?_)
  obtain ⟨x29, e29, h1⟩ := bind_e h1
  refine sC cal277 (d_pavg_In_c e29) ?_
  refine tr tbk 3 (.mk ?_)
  refine sS ⟨42, 4, true, true, v26, [[lst 3 GLayer.av x29.1.Layers, int x29.1.Pend.a0, int x29.1.Pend.a1, int x29.1.Pend.a2]]⟩ sh42 ?_
  refine tr tbk 6 (.mk ?_)
  refine sS ⟨42, 4, true, true, v28, [[lst 3 GLayer.av x29.1.Layers, int x29.1.Pend.a0, int x29.1.Pend.a1, int x29.1.Pend.a2]]⟩ sh42 ?_
  refine tr tbk 3 (.mk ?_)
  obtain rfl := nxt_e h1
  refine w_ret (hret _ _ (hk [(1, ⟨42, 4, true, true, v5, [[lst 3 GLayer.av a3.Layers, int a3.Pend.a0, int a3.Pend.a1, int a3.Pend.a2]]⟩), (2, ⟨50, 3, true, true, v6, [[int a4.Qty, int a4.Value, int a4.Profit]]⟩), (3, ⟨42, 4, true, true, v7, [[.sc (.slice none 0 0), int 0, int 0, int 0]]⟩)]) (.cell rfl (.pt rfl rfl rfl) sh42 rfl (.tmp rfl (.tmp rfl .nil))) (HK.le ⟨rfl, rfl, rfl, trivial⟩) ?_)
  exact ⟨(x29.1, x29.2), (), rfl, rfl, rfl⟩
  rintro y _ ⟨⟨y6_1, y6_2⟩, _, rfl, hc, rfl⟩
  replace h0 := p2_e h0
  subst hc
  refine tr tbk 4 (.mk ?_)
  refine sA 8 z42 fun v30 => ?_
  refine sS ⟨42, 4, true, true, v30, [[lst 3 GLayer.av y6_1.Layers, int y6_1.Pend.a0, int y6_1.Pend.a1, int y6_1.Pend.a2]]⟩ sh42 ?_
  refine tr tbk 7 (.mk ?_)
  refine nb tbk h0 fun x31 h0 => ?_
  refine tr tbk 1 (.mk ?_)
  cases x31
  replace h0 := cf h0
  refine tc tbk 6 (.mk ?_)
  refine sS ⟨42, 4, true, true, v7, [[lst 3 GLayer.av y6_1.Layers, int y6_1.Pend.a0, int y6_1.Pend.a1, int y6_1.Pend.a2]]⟩ sh42 ?_
  refine tr tbk 3 (.mk ?_)
  obtain rfl := nxt_e h0
  refine wR hret (rC sh42 (rT (rT .nil))) ?_
  exact .refl _
  replace h0 := ct h0
  refine tc tbk 4 (.mk ?_)
  obtain ⟨x32, e32, h0⟩ := bind_e h0
  refine sC cal96 (d_pool_own_c e32) ?_
  refine tr tbk 1 (.mk ?_)
  refine sS ⟨42, 4, true, true, v7, [[lst 3 GLayer.av x32.Layers, int x32.Pend.a0, int x32.Pend.a1, int x32.Pend.a2]]⟩ sh42 ?_
  refine tr tbk 3 (.mk ?_)
  obtain rfl := nxt_e h0
  refine wR hret (rC sh42 (rT (rT .nil))) ?_
  exact .refl _
  replace h0 := selr_r h0
  replace h0 := selr_r h0
  replace h0 := selr_r h0
  replace h0 := selr_l h0
  subst hc
  refine tr tbk 6 (.mk ?_)
  refine sY (yv_ifeq rfl Tryz.underlying135 rfl rfl) ?_
  refine tr tbk 8 (.mk ?_)
  obtain ⟨j33, h1, h0⟩ := bind_e h0
  refine rse (Out := fun y H' => (∃ (a : GPool × Int) (k : Unit), a = j33 ∧ y = .tup [.agg [lst 3 GLayer.av a.1.Layers, int a.1.Pend.a0, int a.1.Pend.a1, int a.1.Pend.a2], int 0, int a.2] ∧ H' = hk [(1, ⟨42, 4, true, true, v5, [[lst 3 GLayer.av a3.Layers, int a3.Pend.a0, int a3.Pend.a1, int a3.Pend.a2]]⟩), (2, ⟨50, 3, true, true, v6, [[int a4.Qty, int a4.Value, int a4.Profit]]⟩), (3, ⟨42, 4, true, true, v7, [[.sc (.slice none 0 0), int 0, int 0, int 0]]⟩)])) rfl rfl rfl (yl_callI rfl rfl mth190_270 (.cons rfl (.cons rfl .nil)) cal270 ?_) ?_
  refine pcw (c := _) Tryz.func270 rfl rfl ?_; intro Q hret hnorm
  refine tc tbk 2 (.mk ?_)
  refine sB 13 fun v34 => ?_
  refine sB 14 fun v35 => ?_
  refine sB 15 fun v36 => ?_
  refine sA 16 z42 fun v37 => ?_
  refine tr tbk 8 (.mk ?_)
  obtain ⟨x38, e38, h1⟩ := bind_e h1
  refine sC cal272 (d_mavg_In_c e38) ?_
  refine tr tbk 10 (.mk ?_)
  obtain ⟨x39, e39, h1⟩ := bind_e h1
  refine sC cal146 (d_pool_with_c e39) ?_
  refine tr tbk 1 (.mk ?_)
  refine sS ⟨42, 4, true, true, v37, [[lst 3 GLayer.av x39.Layers, int x39.Pend.a0, int x39.Pend.a1, int x39.Pend.a2]]⟩ sh42 ?_
  refine tr tbk 3 (.mk ?_)
  obtain rfl := nxt_e h1
  refine w_ret (hret _ _ (hk [(1, ⟨42, 4, true, true, v5, [[lst 3 GLayer.av a3.Layers, int a3.Pend.a0, int a3.Pend.a1, int a3.Pend.a2]]⟩), (2, ⟨50, 3, true, true, v6, [[int a4.Qty, int a4.Value, int a4.Profit]]⟩), (3, ⟨42, 4, true, true, v7, [[.sc (.slice none 0 0), int 0, int 0, int 0]]⟩)]) (.cell rfl (.pt rfl rfl rfl) sh42 rfl (.tmp rfl (.tmp rfl .nil))) (HK.le ⟨rfl, rfl, rfl, trivial⟩) ?_)
  exact ⟨(x39, x38.2), (), rfl, rfl, rfl⟩
  rintro y _ ⟨⟨y7_1, y7_2⟩, _, rfl, hc, rfl⟩
  replace h0 := p2_e h0
  subst hc
  refine tr tbk 4 (.mk ?_)
  refine sA 8 z42 fun v40 => ?_
  refine sS ⟨42, 4, true, true, v40, [[lst 3 GLayer.av y7_1.Layers, int y7_1.Pend.a0, int y7_1.Pend.a1, int y7_1.Pend.a2]]⟩ sh42 ?_
  refine tr tbk 7 (.mk ?_)
  refine nb tbk h0 fun x41 h0 => ?_
  refine tr tbk 1 (.mk ?_)
  cases x41
  replace h0 := cf h0
  refine tc tbk 6 (.mk ?_)
  refine sS ⟨42, 4, true, true, v7, [[lst 3 GLayer.av y7_1.Layers, int y7_1.Pend.a0, int y7_1.Pend.a1, int y7_1.Pend.a2]]⟩ sh42 ?_
  refine tr tbk 3 (.mk ?_)
  obtain rfl := nxt_e h0
  refine wR hret (rC sh42 (rT (rT .nil))) ?_
  exact .refl _
  replace h0 := ct h0
  refine tc tbk 4 (.mk ?_)
  obtain ⟨x42, e42, h0⟩ := bind_e h0
  refine sC cal96 (d_pool_own_c e42) ?_
  refine tr tbk 1 (.mk ?_)
  refine sS ⟨42, 4, true, true, v7, [[lst 3 GLayer.av x42.Layers, int x42.Pend.a0, int x42.Pend.a1, int x42.Pend.a2]]⟩ sh42 ?_
  refine tr tbk 3 (.mk ?_)
  obtain rfl := nxt_e h0
  refine wR hret (rC sh42 (rT (rT .nil))) ?_
  exact .refl _
  replace h0 := selr_r h0
  replace h0 := selr_r h0
  replace h0 := selr_r h0
  replace h0 := selr_r h0
  subst hc
  refine tr tbk 6 (.mk ?_)
  refine sY (yv_ifeq rfl Tryz.underlying135 rfl rfl) ?_
  refine tr tbk 8 (.mk ?_)
  obtain ⟨j43, h1, h0⟩ := bind_e h0
  refine rse (Out := fun y H' => (∃ (a : GPool × Int) (k : Unit), a = j43 ∧ y = .tup [.agg [lst 3 GLayer.av a.1.Layers, int a.1.Pend.a0, int a.1.Pend.a1, int a.1.Pend.a2], int 0, int a.2] ∧ H' = hk [(1, ⟨42, 4, true, true, v5, [[lst 3 GLayer.av a3.Layers, int a3.Pend.a0, int a3.Pend.a1, int a3.Pend.a2]]⟩), (2, ⟨50, 3, true, true, v6, [[int a4.Qty, int a4.Value, int a4.Profit]]⟩), (3, ⟨42, 4, true, true, v7, [[.sc (.slice none 0 0), int 0, int 0, int 0]]⟩)])) rfl rfl rfl (yl_callI rfl rfl mth189_265 (.cons rfl (.cons rfl .nil)) cal265 ?_) ?_
  refine pcw (c := _) Tryz.func265 rfl rfl ?_; intro Q hret hnorm
  refine tc tbk 2 (.mk ?_)
  refine sB 17 fun v44 => ?_
  refine sB 18 fun v45 => ?_
  refine sB 19 fun v46 => ?_
  refine sA 20 z42 fun v47 => ?_
  refine tr tbk 8 (.mk ?_)
  obtain ⟨x48, e48, h1⟩ := bind_e h1
  refine sC cal267 (d_fifo_In_c e48) ?_
  refine tr tbk 10 (.mk ?_)
  obtain ⟨x49, e49, h1⟩ := bind_e h1
  refine sC cal146 (d_pool_with_c e49) ?_
  refine tr tbk 1 (.mk ?_)
  refine sS ⟨42, 4, true, true, v47, [[lst 3 GLayer.av x49.Layers, int x49.Pend.a0, int x49.Pend.a1, int x49.Pend.a2]]⟩ sh42 ?_
  refine tr tbk 3 (.mk ?_)
  obtain rfl := nxt_e h1
  refine w_ret (hret _ _ (hk [(1, ⟨42, 4, true, true, v5, [[lst 3 GLayer.av a3.Layers, int a3.Pend.a0, int a3.Pend.a1, int a3.Pend.a2]]⟩), (2, ⟨50, 3, true, true, v6, [[int a4.Qty, int a4.Value, int a4.Profit]]⟩), (3, ⟨42, 4, true, true, v7, [[.sc (.slice none 0 0), int 0, int 0, int 0]]⟩)]) (.cell rfl (.pt rfl rfl rfl) sh42 rfl (.tmp rfl (.tmp rfl .nil))) (HK.le ⟨rfl, rfl, rfl, trivial⟩) ?_)
  exact ⟨(x49, x48.2), (), rfl, rfl, rfl⟩
  rintro y _ ⟨⟨y8_1, y8_2⟩, _, rfl, hc, rfl⟩
  replace h0 := p2_e h0
  subst hc
  refine tr tbk 4 (.mk ?_)
  refine sA 8 z42 fun v50 => ?_
  refine sS ⟨42, 4, true, true, v50, [[lst 3 GLayer.av y8_1.Layers, int y8_1.Pend.a0, int y8_1.Pend.a1, int y8_1.Pend.a2]]⟩ sh42 ?_
  refine tr tbk 7 (.mk ?_)
  refine nb tbk h0 fun x51 h0 => ?_
  refine tr tbk 1 (.mk ?_)
  cases x51
  replace h0 := cf h0
  refine tc tbk 6 (.mk ?_)
  refine sS ⟨42, 4, true, true, v7, [[lst 3 GLayer.av y8_1.Layers, int y8_1.Pend.a0, int y8_1.Pend.a1, int y8_1.Pend.a2]]⟩ sh42 ?_
  refine tr tbk 3 (.mk ?_)
  obtain rfl := nxt_e h0
  refine wR hret (rC sh42 (rT (rT .nil))) ?_
  exact .refl _
  replace h0 := ct h0
  refine tc tbk 4 (.mk ?_)
  obtain ⟨x52, e52, h0⟩ := bind_e h0
  refine sC cal96 (d_pool_own_c e52) ?_
  refine tr tbk 1 (.mk ?_)
  refine sS ⟨42, 4, true, true, v7, [[lst 3 GLayer.av x52.Layers, int x52.Pend.a0, int x52.Pend.a1, int x52.Pend.a2]]⟩ sh42 ?_
  refine tr tbk 3 (.mk ?_)
  obtain rfl := nxt_e h0
  refine wR hret (rC sh42 (rT (rT .nil))) ?_
  exact .refl _
def d_stock_At (a1 : GState) (a2 : Int) (a3 : Int) (a4 : Int) : Option (GPool) :=
(d_stock_place a1 a2 a3 a4).bind fun x7 =>
bnd (decide (x7 < 0)) fun x8 =>
cond x8 (some (((⟨[], (⟨0, 0, 0⟩ : A3_Int)⟩ : GPool) : GPool))) ((ix a1.Ents a2).bind fun x9 =>
(ix x9.Pools x7).bind fun x10 =>
asrt (x10.Layers.length ≤ 68719476736) <|
some ((x10 : GPool)))
theorem d_stock_At_c {a1 : GState} {a2 : Int} {a3 : Int} {a4 : Int} {r : GPool} (h0 : d_stock_At a1 a2 a3 a4 = some r) : PP Tryz.prog 28 [.agg (GState.av a1), int a2, int a3, int a4] (fun y => y = .agg (GPool.av r)) := by
  unfold d_stock_At at h0
  refine pp_of_pc (R0 := fun y H => Cv (frzH H) y (.agg (GPool.av r))) ?_ (fun y H hc => ⟨_, rfl, (fun (a : GPool) => PV.agg (GPool.pvc a)) r, hc⟩)
  refine pcw (c := _) Tryz.func28 rfl rfl ?_; intro Q hret hnorm
  refine tc tbk 2 (.mk ?_)
  refine sB 1 fun v5 => ?_
  refine sA 2 z42 fun v6 => ?_
  refine tr tbk 7 (.mk ?_)
  obtain ⟨x7, e7, h0⟩ := bind_e h0
  refine sC cal46 (d_stock_place_c e7) ?_
  refine tr tbk 6 (.mk ?_)
  refine nb tbk h0 fun x8 h0 => ?_
  refine tr tbk 1 (.mk ?_)
  cases x8
  replace h0 := cf h0
  refine tc tbk 7 (.mk ?_)
  obtain ⟨x9, e9, h0⟩ := bind_e h0
  refine sY (yv_to (y := .pp [int x9.Now, boo x9.Closed, lst 4 GPool.av x9.Pools, lst 1 fI x9.Bal, lst 11 GRoll.av x9.Rolls, lst 1 fI x9.Prices, lst 1 fI x9.Down, lst 8 GEnt.av x9.Ahead]) (yv_ixT rfl Tryz.underlying27 sh47 rfl rfl e9) (congrArg AV.pp (GEnt.av_eq x9))) ?_
  refine tr tbk 3 (.mk ?_)
  obtain ⟨x10, e10, h0⟩ := bind_e h0
  refine sY (yv_ixT rfl Tryz.underlying44 sh42 rfl rfl e10) ?_
  refine tr tbk 1 (.mk ?_)
  refine sA 3 z42 fun v11 => ?_
  refine sS ⟨42, 4, true, true, v11, [[lst 3 GLayer.av x10.Layers, int x10.Pend.a0, int x10.Pend.a1, int x10.Pend.a2]]⟩ sh42 ?_
  refine tr tbk 5 (.mk ?_)
  obtain ⟨p12, h0⟩ := asrt_e h0
  refine rse rfl rfl rfl (yl_call rfl rfl (.cons rfl .nil) cal59 (pc_cv (clone59_c (id := 4) (l := x10.Layers) rfl p12) (.cons (.refl _) .nil))) ?_; rintro _ _ ⟨v13, rfl, rfl⟩
  refine tr tbk 1 (.mk ?_)
  refine sS ⟨42, 4, true, true, v11, [[.sl 4 v13 0 x10.Layers.length, int x10.Pend.a0, int x10.Pend.a1, int x10.Pend.a2]]⟩ sh39 ?_
  refine tr tbk 4 (.mk ?_)
  refine sS ⟨42, 4, true, true, v6, [[.sl 4 v13 0 x10.Layers.length, int x10.Pend.a0, int x10.Pend.a1, int x10.Pend.a2]]⟩ sh42 ?_
  refine tr tbk 1 (.mk ?_)
  obtain rfl := nxt_e h0
  refine wR hret (rC sh42 .nil) ?_
  exact (CvL.agg (.cons (cv_lst rfl rfl rfl rfl rfl (Eq.symm rfl)) (.cons (.refl _) (.cons (.refl _) (.cons (.refl _) .nil)))))
  replace h0 := ct h0
  refine tc tbk 4 (.mk ?_)
  refine sS ⟨42, 4, true, true, v6, [[.sc (.slice none 0 0), int 0, int 0, int 0]]⟩ sh42 ?_
  refine tr tbk 1 (.mk ?_)
  obtain rfl := nxt_e h0
  refine wR hret (rC sh42 .nil) ?_
  exact (CvL.agg (.cons (.nil _) (.cons (.refl _) (.cons (.refl _) (.cons (.refl _) .nil)))))
def d_stock_worth_L0 (a1 : GState) (a2 : Int) (a3 : Int) : Nat → Int → (List Int) → (List Int) → (List Int) → Option ((List Int) × (List Int) × (List Int))
  | 0, _, _, _, _ => none
  | n + 1, y0_4, y0_5, y0_6, y0_7 =>
    bnd (decide (y0_4 < 2)) fun x10 =>
    cond x10 ((d_stock_At a1 a2 a3 y0_4).bind fun x11 =>
    (d_fifo_Total n x11.Layers).bind fun x12 =>
    bnd (y0_5 ++ ([x12.1.Qty] : List Int)) fun x14 =>
    asrt (x14.length ≤ 68719476736) <|
    bnd (y0_6 ++ ([x12.1.Value] : List Int)) fun x17 =>
    asrt (x17.length ≤ 68719476736) <|
    bnd (y0_7 ++ ([x12.1.Profit] : List Int)) fun x20 =>
    asrt (x20.length ≤ 68719476736) <|
    bnd (w64 (y0_4 + 1)) fun x23 =>
    d_stock_worth_L0 a1 a2 a3 n (x23 : Int) (x14 : List Int) (x17 : List Int) (x20 : List Int)) (some ((y0_5 : List Int), (y0_6 : List Int), (y0_7 : List Int)))
def d_stock_worth (n : Nat) (a1 : GState) (a2 : Int) (a3 : Int) : Option (GLayer × Bool) :=
(show Option ((List Int) × (List Int) × (List Int)) from
d_stock_worth_L0 a1 a2 a3 n (0 : Int) (([] : List Int) : List Int) (([] : List Int) : List Int) (([] : List Int) : List Int)).bind <| p2 fun (y1_4 : List Int) (q0 : (List Int) × (List Int)) => (p2 fun (y1_5 : List Int) (y1_6 : List Int) =>
(d_money_Sum n y1_4).bind fun x24 =>
(d_money_Sum n y1_5).bind fun x25 =>
(d_money_Sum n y1_6).bind fun x26 =>
bnd (if x26.2 > (if x25.2 > x24.2 then x25.2 else x24.2) then x26.2 else (if x25.2 > x24.2 then x25.2 else x24.2)) fun x27 =>
bnd (decide (x27 = 0)) fun x28 =>
some (((⟨x24.1, x25.1, x26.1⟩ : GLayer) : GLayer), (x28 : Bool))) q0
theorem d_stock_worth_c {n : Nat} {a1 : GState} {a2 : Int} {a3 : Int} {r : GLayer × Bool} (h0 : d_stock_worth n a1 a2 a3 = some r) : PP Tryz.prog 49 [.agg (GState.av a1), int a2, int a3] (fun y => y = .tup [.agg (GLayer.av r.1), boo r.2]) := by
  unfold d_stock_worth at h0
  refine pp_of_pc (R0 := fun y H => Cv (frzH H) y (.tup [.agg (GLayer.av r.1), boo r.2])) ?_ (fun y H hc => ⟨_, rfl, .tup (pvl2 ((fun (a : GLayer) => PV.agg (GLayer.pvc a)) (r.1)) (pvB (r.2))), hc⟩)
  refine pcw (c := _) Tryz.func49 rfl rfl ?_; intro Q hret hnorm
  refine tc tbk 2 (.mk ?_)
  refine sB 1 fun v4 => ?_
  refine sA 2 z50 fun v5 => ?_
  refine tr tbk 13 (.mk ?_)
  refine jn h0 [6, 7] [2] (fun (a : (List Int) × (List Int) × (List Int)) (k : Nat × Nat × Nat) => [(8, .sl 7 k.1 0 a.1.length), (9, .sl 8 k.2.1 0 a.2.1.length), (10, .sl 9 k.2.2 0 a.2.2.length)]) (fun a k => [(7, ⟨3, 1, true, true, k.1, a.1.map fI⟩), (8, ⟨3, 1, true, true, k.2.1, a.2.1.map fI⟩), (9, ⟨3, 1, true, true, k.2.2, a.2.2.map fI⟩)]) ⟨fun j6 h1 => ?_, ?_⟩
  refine tc tbk 1 (.mk ?_)
  refine c_nilobj 8 7 3 1 rfl rfl ?_; intro v7
  refine c_nilobj 9 8 3 1 rfl rfl ?_; intro v8
  refine c_nilobj 10 9 3 1 rfl rfl ?_; intro v9
  refine lp (fun n (a : Int × (List Int) × (List Int) × (List Int)) => d_stock_worth_L0 a1 a2 a3 n a.1 a.2.1 a.2.2.1 a.2.2.2) ((0 : Int), (([] : List Int) : List Int), (([] : List Int) : List Int), (([] : List Int) : List Int)) (v7, v8, v9) h1 [1, 2, 3, 6, 7] [1, 2] (fun (a : Int × (List Int) × (List Int) × (List Int)) (k : Nat × Nat × Nat) => [(8, .sl 7 k.1 0 a.2.1.length), (9, .sl 8 k.2.1 0 a.2.2.1.length), (10, .sl 9 k.2.2 0 a.2.2.2.length), (20, int a.1)]) (fun a k => [(7, ⟨3, 1, true, true, k.1, a.2.1.map fI⟩), (8, ⟨3, 1, true, true, k.2.1, a.2.2.1.map fI⟩), (9, ⟨3, 1, true, true, k.2.2, a.2.2.2.map fI⟩)]) (fun _ => rfl) ⟨leA, ?_⟩
  rintro n ⟨y0_4, y0_5, y0_6, y0_7⟩ ⟨w0_1, w0_2, w0_3⟩ hm h1
  replace h1 : d_stock_worth_L0 a1 a2 a3 (n + 1) y0_4 y0_5 y0_6 y0_7 = some _ := h1
  rw [d_stock_worth_L0] at h1
  refine tc tbk 2 (.mk ?_)
  refine nb tbk h1 fun x10 h1 => ?_
  refine tr tbk 2 (.mk ?_)
  cases x10
  replace h1 := cf h1
  refine tc tbk 2 (.mk ?_)
  exact lf h1 (w0_1, w0_2, w0_3) leA
  replace h1 := ct h1
  refine tc tbk 15 (.mk ?_)
  obtain ⟨x11, e11, h1⟩ := bind_e h1
  refine sC cal28 (d_stock_At_c e11) ?_
  refine tr tbk 1 (.mk ?_)
  obtain ⟨x12, e12, h1⟩ := bind_e h1
  refine sC cal99 (d_fifo_Total_c e12) ?_
  refine tr tbk 3 (.mk ?_)
  refine sA 3 z50 fun v13 => ?_
  refine sS ⟨50, 3, true, true, v13, [[int x12.1.Qty, int x12.1.Value, int x12.1.Profit]]⟩ sh50 ?_
  refine tr tbk 2 (.mk ?_)
  refine c_drawE [0, 0, 2, 6, 15, 0, 0, 64, 192, 511, 0, 0, 2048, 6144, 16383, 32767, 65535, 131071] (rl [(1, [3]), (2, [3]), (6, [3]), (7, [3]), (11, [3]), (12, [3])] []) (rl [(14, [])] [3]) (rl [(4, false), (9, false), (14, false)] true) [0, 1, 2, 3, 5, 6, 7, 8, 10, 11, 12, 13, 4, 9, 14, 15, 16, 17] mixed (by kernel_rfl) ?_; intro K hK
  refine eM ?_
  refine eF fo50_0 ?_
  refine eL sh3 ?_
  refine eP (fun H hH => yv_to (y := lst 1 fI ([x12.1.Qty] : List Int)) (yv_buildSlice (ps := [(0, _)]) (rows := [[int x12.1.Qty]]) rfl Tryz.underlying23 bz3 (.cons rfl .nil) (by kernel_rfl) rfl rfl rfl) rfl) ?_
  refine eM ?_
  refine eF fo50_1 ?_
  refine eL sh3 ?_
  refine eP (fun H hH => yv_to (y := lst 1 fI ([x12.1.Value] : List Int)) (yv_buildSlice (ps := [(0, _)]) (rows := [[int x12.1.Value]]) rfl Tryz.underlying23 bz3 (.cons rfl .nil) (by kernel_rfl) rfl rfl rfl) rfl) ?_
  refine eM ?_
  refine eF fo50_2 ?_
  refine eL sh3 ?_
  refine eP (fun H hH => yv_to (y := lst 1 fI ([x12.1.Profit] : List Int)) (yv_buildSlice (ps := [(0, _)]) (rows := [[int x12.1.Profit]]) rfl Tryz.underlying23 bz3 (.cons rfl .nil) (by kernel_rfl) rfl rfl rfl) rfl) ?_
  obtain ⟨x14, e14, h1⟩ := bnd_e h1
  obtain ⟨p15, h1⟩ := asrt_e h1
  refine de_eff rfl rfl rfl rfl (yl_appT (g := fI) (l := y0_5) (m := ([x12.1.Qty] : List Int)) .any rfl Tryz.underlying23 bz3 by3 rfl rfl rfl rfl rfl rfl rfl rfl rfl rfl (Eq.symm rfl) (.refl _) (fun _ => rfl) e14 p15) (by rintro _ _ ⟨v16, -, rfl, rfl⟩; exact ⟨rfl, trivial⟩) ?_; rintro _ _ ⟨v16, -, rfl, rfl⟩
  obtain ⟨x17, e17, h1⟩ := bnd_e h1
  obtain ⟨p18, h1⟩ := asrt_e h1
  refine de_eff rfl rfl rfl rfl (yl_appT (g := fI) (l := y0_6) (m := ([x12.1.Value] : List Int)) .any rfl Tryz.underlying23 bz3 by3 rfl rfl rfl rfl rfl rfl rfl rfl rfl rfl (Eq.symm rfl) (.refl _) (fun _ => rfl) e17 p18) (by rintro _ _ ⟨v19, -, rfl, rfl⟩; exact ⟨rfl, trivial⟩) ?_; rintro _ _ ⟨v19, -, rfl, rfl⟩
  obtain ⟨x20, e20, h1⟩ := bnd_e h1
  obtain ⟨p21, h1⟩ := asrt_e h1
  refine de_eff rfl rfl rfl rfl (yl_appT (g := fI) (l := y0_7) (m := ([x12.1.Profit] : List Int)) .any rfl Tryz.underlying23 bz3 by3 rfl rfl rfl rfl rfl rfl rfl rfl rfl rfl (Eq.symm rfl) (.refl _) (fun _ => rfl) e20 p21) (by rintro _ _ ⟨v22, -, rfl, rfl⟩; exact trivial) ?_; rintro _ _ ⟨v22, -, rfl, rfl⟩
  iterate 3 refine eA ?_
  refine de_nil (hK _ ?_)
  refine tc tbk 2 (.mk ?_)
  refine ni tbk h1 fun x23 h1 => ?_
  refine tr tbk 2 (.mk ?_)
  exact bk (x23, x14, x17, x20) (v16, v19, v22) h1 leA
  rintro ⟨y1_4, y1_5, y1_6⟩ ⟨w1_1, w1_2, w1_3⟩ h0
  replace h0 := p2_e h0
  replace h0 := p2_e h0
  refine tc tbk 3 (.mk ?_)
  obtain ⟨x24, e24, h0⟩ := bind_e h0
  refine sY (yv_callT (v := .tup [int x24.1, int x24.2]) rfl rfl (.cons rfl .nil) cal100 (.cons (cv_lst rfl rfl rfl rfl rfl (Eq.symm rfl)) .nil) (d_money_Sum_c e24) rfl) ?_
  refine tr tbk 9 (.mk ?_)
  obtain ⟨x25, e25, h0⟩ := bind_e h0
  refine sY (yv_callT (v := .tup [int x25.1, int x25.2]) rfl rfl (.cons rfl .nil) cal100 (.cons (cv_lst rfl rfl rfl rfl rfl (Eq.symm rfl)) .nil) (d_money_Sum_c e25) rfl) ?_
  refine tr tbk 9 (.mk ?_)
  obtain ⟨x26, e26, h0⟩ := bind_e h0
  refine sY (yv_callT (v := .tup [int x26.1, int x26.2]) rfl rfl (.cons rfl .nil) cal100 (.cons (cv_lst rfl rfl rfl rfl rfl (Eq.symm rfl)) .nil) (d_money_Sum_c e26) rfl) ?_
  refine tr tbk 15 (.mk ?_)
  obtain ⟨x27, e27, h0⟩ := bnd_e h0
  refine sY (yv_max3 rfl rfl rfl rfl e27) ?_
  refine nb tbk h0 fun x28 h0 => ?_
  refine sS ⟨50, 3, true, true, v5, [[int x24.1, int x25.1, int x26.1]]⟩ sh50 ?_
  refine tr tbk 2 (.mk ?_)
  obtain rfl := nxt_e h0
  refine wR hret (rC sh50 (rT .nil)) ?_
  exact .refl _
def d_stock_steady_L1 (x9 : GPool) : Nat → Int → (List Int) → Option ((List Int))
  | 0, _, _ => none
  | n + 1, y1_2, y1_3 =>
    bnd (decide (y1_2 < (x9.Layers.length : Int))) fun x11 =>
    cond x11 ((ix x9.Layers y1_2).bind fun x12 =>
    bnd (w64 (0 - x12.Profit)) fun x14 =>
    bnd (if x14 > x12.Profit then x14 else x12.Profit) fun x15 =>
    bnd (y1_3 ++ ([x15] : List Int)) fun x16 =>
    asrt (x16.length ≤ 68719476736) <|
    bnd (w64 (y1_2 + 1)) fun x19 =>
    d_stock_steady_L1 x9 n (x19 : Int) (x16 : List Int)) (some (y1_3 : List Int))
def d_stock_steady_L0 (a1 : GState) (a2 : Int) (a3 : Int) : Nat → Int → (List Int) → Option ((List Int))
  | 0, _, _ => none
  | n + 1, y0_2, y0_3 =>
    bnd (decide (y0_2 < 2)) fun x7 =>
    cond x7 ((show Option ((List Int)) from
    (d_stock_At a1 a2 a3 y0_2).bind fun x9 =>
    (show Option ((List Int)) from
    d_stock_steady_L1 x9 n (0 : Int) (y0_3 : List Int)).bind <| fun y2_2 =>
    some (y2_2 : List Int)).bind <| fun y3_2 =>
    bnd (w64 (y0_2 + 1)) fun x20 =>
    d_stock_steady_L0 a1 a2 a3 n (x20 : Int) (y3_2 : List Int)) (some (y0_3 : List Int))
def d_stock_steady (n : Nat) (a1 : GState) (a2 : Int) (a3 : Int) : Option (Bool) :=
(show Option ((List Int)) from
d_stock_steady_L0 a1 a2 a3 n (0 : Int) (([] : List Int) : List Int)).bind <| fun y4_2 =>
(d_money_Sum n y4_2).bind fun x21 =>
bnd (decide (x21.2 = 0)) fun x22 =>
some ((x22 : Bool))
theorem d_stock_steady_c {n : Nat} {a1 : GState} {a2 : Int} {a3 : Int} {r : Bool} (h0 : d_stock_steady n a1 a2 a3 = some r) : PP Tryz.prog 50 [.agg (GState.av a1), int a2, int a3] (fun y => y = boo r) := by
  unfold d_stock_steady at h0
  refine pp_of_pc (R0 := fun y H => Cv (frzH H) y (boo r)) ?_ (fun y H hc => ⟨_, rfl, pvB r, hc⟩)
  refine pcw (c := _) Tryz.func50 rfl rfl ?_; intro Q hret hnorm
  refine tc tbk 2 (.mk ?_)
  refine sB 1 fun v4 => ?_
  refine tr tbk 11 (.mk ?_)
  refine jn h0 [6] [] (fun (a : (List Int)) (k : Nat) => [(7, .sl 4 k 0 a.length)]) (fun a k => [(4, ⟨3, 1, true, true, k, a.map fI⟩)]) ⟨fun j5 h1 => ?_, ?_⟩
  refine tc tbk 1 (.mk ?_)
  refine c_nilobj 7 4 3 1 rfl rfl ?_; intro v6
  refine lp (fun n (a : Int × (List Int)) => d_stock_steady_L0 a1 a2 a3 n a.1 a.2) ((0 : Int), (([] : List Int) : List Int)) v6 h1 [1, 2, 3, 6] [1] (fun (a : Int × (List Int)) (k : Nat) => [(7, .sl 4 k 0 a.2.length), (13, int a.1)]) (fun a k => [(4, ⟨3, 1, true, true, k, a.2.map fI⟩)]) (fun _ => rfl) ⟨leA, ?_⟩
  rintro n ⟨y0_2, y0_3⟩ w0_1 hm h1
  replace h1 : d_stock_steady_L0 a1 a2 a3 (n + 1) y0_2 y0_3 = some _ := h1
  rw [d_stock_steady_L0] at h1
  refine tc tbk 2 (.mk ?_)
  refine nb tbk h1 fun x7 h1 => ?_
  refine tr tbk 2 (.mk ?_)
  cases x7
  replace h1 := cf h1
  refine tc tbk 2 (.mk ?_)
  exact lf h1 w0_1 leA
  replace h1 := ct h1
  refine tc tbk 3 (.mk ?_)
  refine jn h1 [1, 2, 3, 6, 13] [1] (fun (a : (List Int)) (k : Nat) => [(7, .sl 4 k 0 a.length)]) (fun a k => [(4, ⟨3, 1, true, true, k, a.map fI⟩)]) ⟨fun j8 h2 => ?_, ?_⟩
  refine tc tbk 12 (.mk ?_)
  obtain ⟨x9, e9, h2⟩ := bind_e h2
  refine sC cal28 (d_stock_At_c e9) ?_
  refine tr tbk 1 (.mk ?_)
  refine sY (yv_len_sl rfl Tryz.underlying39 rfl (lst_len _)) ?_
  refine tr tbk 2 (.mk ?_)
  refine jn h2 [1, 2, 3, 6, 13] [1] (fun (a : (List Int)) (k : Nat) => [(7, .sl 4 k 0 a.length)]) (fun a k => [(4, ⟨3, 1, true, true, k, a.map fI⟩)]) ⟨fun j10 h3 => ?_, ?_⟩
  refine tc tbk 1 (.mk ?_)
  refine lp (fun n (a : Int × (List Int)) => d_stock_steady_L1 x9 n a.1 a.2) ((0 : Int), (y0_3 : List Int)) w0_1 h3 [1, 2, 3, 6, 13, 21, 22] [1] (fun (a : Int × (List Int)) (k : Nat) => [(7, .sl 4 k 0 a.2.length), (23, int a.1)]) (fun a k => [(4, ⟨3, 1, true, true, k, a.2.map fI⟩)]) (fun _ => rfl) ⟨leA, ?_⟩
  rintro n ⟨y1_2, y1_3⟩ w1_1 hm h3
  replace h3 : d_stock_steady_L1 x9 (n + 1) y1_2 y1_3 = some _ := h3
  rw [d_stock_steady_L1] at h3
  refine tc tbk 2 (.mk ?_)
  refine nb tbk h3 fun x11 h3 => ?_
  refine tr tbk 2 (.mk ?_)
  cases x11
  replace h3 := cf h3
  refine tc tbk 2 (.mk ?_)
  exact lf h3 w1_1 leA
  replace h3 := ct h3
  refine tc tbk 6 (.mk ?_)
  obtain ⟨x12, e12, h3⟩ := bind_e h3
  refine sY (yv_ixT rfl Tryz.underlying39 sh50 rfl rfl e12) ?_
  refine tr tbk 1 (.mk ?_)
  refine sA 2 z50 fun v13 => ?_
  refine sS ⟨50, 3, true, true, v13, [[int x12.Qty, int x12.Value, int x12.Profit]]⟩ sh50 ?_
  refine tr tbk 7 (.mk ?_)
  refine ni tbk h3 fun x14 h3 => ?_
  obtain ⟨x15, e15, h3⟩ := bnd_e h3
  refine sY (yv_max rfl rfl rfl e15) ?_
  refine sY (yv_to (y := lst 1 fI ([x15] : List Int)) (yv_buildSlice (ps := [(0, _)]) (rows := [[int x15]]) rfl Tryz.underlying23 bz3 (.cons rfl .nil) (by kernel_rfl) rfl rfl rfl) rfl) ?_
  obtain ⟨x16, e16, h3⟩ := bnd_e h3
  obtain ⟨p17, h3⟩ := asrt_e h3
  refine rse rfl rfl rfl (yl_appT (g := fI) (l := y1_3) (m := ([x15] : List Int)) .any rfl Tryz.underlying23 bz3 by3 rfl rfl rfl rfl rfl rfl rfl rfl rfl rfl (Eq.symm rfl) (.refl _) (fun _ => rfl) e16 p17) ?_; rintro _ _ ⟨v18, -, rfl, rfl⟩
  refine tr tbk 4 (.mk ?_)
  refine ni tbk h3 fun x19 h3 => ?_
  refine tr tbk 2 (.mk ?_)
  exact bk (x19, x16) v18 h3 leA
  rintro y2_2 w2_1 h2
  refine tc tbk 1 (.mk ?_)
  exact lf h2 w2_1 leA
  rintro y3_2 w3_1 h1
  refine tc tbk 1 (.mk ?_)
  refine ni tbk h1 fun x20 h1 => ?_
  refine tr tbk 2 (.mk ?_)
  exact bk (x20, y3_2) w3_1 h1 leA
  rintro y4_2 w4_1 h0
  refine tc tbk 3 (.mk ?_)
  obtain ⟨x21, e21, h0⟩ := bind_e h0
  refine sY (yv_callT (v := .tup [int x21.1, int x21.2]) rfl rfl (.cons rfl .nil) cal100 (.cons (cv_lst rfl rfl rfl rfl rfl (Eq.symm rfl)) .nil) (d_money_Sum_c e21) rfl) ?_
  refine tr tbk 9 (.mk ?_)
  refine nb tbk h0 fun x22 h0 => ?_
  refine tr tbk 2 (.mk ?_)
  obtain rfl := nxt_e h0
  refine wR hret (rT .nil) ?_
  exact .refl _
def d_stock_Bring (n : Nat) (a1 : GState) (a2 : Int) (a3 : Int) (a4 : Int) (a5 : GLayer) : Option (GState × Int × Int × Int) :=
(d_stock_place a1 a2 a3 a4).bind fun x9 =>
bnd (decide (x9 < 0)) fun x10 =>
cond x10 (some ((a1 : GState), (0 : Int), (0 : Int), (4 : Int))) ((ix a1.Master.Methods a2).bind fun x11 =>
(ix x11 a3).bind fun x12 =>
(ix a1.Master.Costs a2).bind fun x13 =>
(ix x13 a3).bind fun x14 =>
(ix a1.Ents a2).bind fun x15 =>
(ix x15.Pools x9).bind fun x16 =>
(d_pool_In n x12 x14 x16 a5).bind fun x17 =>
bnd (decide (x17.2.2 ≠ 0)) fun x19 =>
cond x19 (some ((a1 : GState), (0 : Int), (0 : Int), (x17.2.2 : Int))) ((show Option ((Int × Bool × (List Int) × (List GRoll) × (List Int) × (List Int) × (List GEnt) × (List GPool))) from
(show Option ((Unit)) from
asrt (a1.Ents.length ≤ 68719476736) <|
(ix a1.Ents a2).bind fun x26 =>
some ()).bind <| fun _ =>
(ix a1.Ents a2).bind fun x27 =>
asrt (x27.Pools.length ≤ 68719476736) <|
(ix x27.Pools x9).bind fun x30 =>
bnd (x27.Pools.set (Int.toNat x9) (x17.1 : GPool)) fun x31 =>
some ((x27.Now : Int), (x27.Closed : Bool), (x27.Bal : List Int), (x27.Rolls : List GRoll), (x27.Prices : List Int), (x27.Down : List Int), (x27.Ahead : List GEnt), (x31 : List GPool))).bind <| p2 fun (y1_2 : Int) (q0 : Bool × (List Int) × (List GRoll) × (List Int) × (List Int) × (List GEnt) × (List GPool)) => (p2 fun (y1_3 : Bool) (q1 : (List Int) × (List GRoll) × (List Int) × (List Int) × (List GEnt) × (List GPool)) => (p2 fun (y1_5 : List Int) (q2 : (List GRoll) × (List Int) × (List Int) × (List GEnt) × (List GPool)) => (p2 fun (y1_6 : List GRoll) (q3 : (List Int) × (List Int) × (List GEnt) × (List GPool)) => (p2 fun (y1_7 : List Int) (q4 : (List Int) × (List GEnt) × (List GPool)) => (p2 fun (y1_8 : List Int) (q5 : (List GEnt) × (List GPool)) => (p2 fun (y1_9 : List GEnt) (y1_10 : List GPool) =>
(ix a1.Ents a2).bind fun x32 =>
(d_stock_worth n (⟨a1.Master, (a1.Ents.set (Int.toNat a2) (⟨y1_2, y1_3, y1_10, y1_5, y1_6, y1_7, y1_8, y1_9⟩ : GEnt)), a1.Receipts, a1.Sales, a1.Transits, a1.Done⟩ : GState) a2 a3).bind fun x33 =>
(show Option (Bool) from
bnd (!x33.2) fun x36 =>
cond x36 (some (true : Bool)) ((d_stock_steady n (⟨a1.Master, (a1.Ents.set (Int.toNat a2) (⟨y1_2, y1_3, y1_10, y1_5, y1_6, y1_7, y1_8, y1_9⟩ : GEnt)), a1.Receipts, a1.Sales, a1.Transits, a1.Done⟩ : GState) a2 a3).bind fun x37 =>
bnd (!x37) fun x38 =>
some (x38 : Bool))).bind <| fun y2_1 =>
cond y2_1 (some ((a1 : GState), (0 : Int), (0 : Int), (2 : Int))) (bnd (w64 (a5.Value - x17.2.1)) fun x39 =>
some (((⟨a1.Master, (a1.Ents.set (Int.toNat a2) (⟨y1_2, y1_3, y1_10, y1_5, y1_6, y1_7, y1_8, y1_9⟩ : GEnt)), a1.Receipts, a1.Sales, a1.Transits, a1.Done⟩ : GState) : GState), (x39 : Int), (x17.2.1 : Int), (0 : Int)))) q5) q4) q3) q2) q1) q0))
theorem d_stock_Bring_c {n : Nat} {a1 : GState} {a2 : Int} {a3 : Int} {a4 : Int} {a5 : GLayer} {r : GState × Int × Int × Int} (h0 : d_stock_Bring n a1 a2 a3 a4 a5 = some r) : PP Tryz.prog 24 [.agg (GState.av a1), int a2, int a3, int a4, .agg (GLayer.av a5)] (fun y => y = .tup [.agg (GState.av r.1), int r.2.1, int r.2.2.1, int r.2.2.2]) := by
  unfold d_stock_Bring at h0
  refine pp_of_pc (R0 := fun y H => Cv (frzH H) y (.tup [.agg (GState.av r.1), int r.2.1, int r.2.2.1, int r.2.2.2])) ?_ (fun y H hc => ⟨_, rfl, .tup (pvl4 ((fun (a : GState) => PV.agg (GState.pvc a)) (r.1)) (pvI (r.2.1)) (pvI (r.2.2.1)) (pvI (r.2.2.2))), hc⟩)
  refine pcw (c := _) Tryz.func24 rfl rfl ?_; intro Q hret hnorm
  refine tc tbk 2 (.mk ?_)
  refine sB 1 fun v6 => ?_
  refine sB 2 fun v7 => ?_
  refine sA 3 z32 fun v8 => ?_
  refine tr tbk 10 (.mk ?_)
  obtain ⟨x9, e9, h0⟩ := bind_e h0
  refine sC cal46 (d_stock_place_c e9) ?_
  refine tr tbk 6 (.mk ?_)
  refine nb tbk h0 fun x10 h0 => ?_
  refine tr tbk 1 (.mk ?_)
  cases x10
  replace h0 := cf h0
  refine tc tbk 3 (.mk ?_)
  refine c_drawE [0, 1, 3, 0, 15, 31, 0, 127, 255, 0, 512, 1536, 0, 7680, 15872, 0, 65024, 130560, 0, 262144, 0, 1835008, 3932160, 8126464, 0, 33292288, 66846720, 0, 268435455, 536870911, 1073741823, 1073741823, 1073741823, 0, 10737418239, 30064771071, 68719476735] (rl [(0, [1]), (1, [1]), (2, [1]), (9, [1]), (10, [1]), (11, [1]), (18, [1]), (19, [1]), (27, [2])] []) (rl [(34, [])] [1, 2]) (rl [(33, false), (34, false)] true) [0, 1, 2, 3, 4, 5, 6, 7, 8, 9, 10, 11, 12, 13, 14, 15, 16, 17, 18, 19, 20, 21, 22, 23, 24, 25, 26, 27, 28, 29, 30, 31, 32, 33, 34, 35, 36] mixed (by kernel_rfl) ?_; intro K hK
  refine eF fo32_0 ?_
  refine eF fo26_3 ?_
  refine eL sh24 ?_
  refine eM ?_
  obtain ⟨x11, e11, h0⟩ := bind_e h0
  refine eP (fun H hH => yv_ixT rfl Tryz.underlying24 sh23 rfl rfl e11) ?_
  refine eP (fun H hH => yv_load rfl sh23 rfl (.pp _) rfl) ?_
  refine eM ?_
  obtain ⟨x12, e12, h0⟩ := bind_e h0
  refine eP (fun H hH => yv_ixT rfl Tryz.underlying23 sh3 rfl rfl e12) ?_
  refine eP (fun H hH => yv_load rfl sh3 rfl (.pp _) rfl) ?_
  refine eF fo32_0 ?_
  refine eF fo26_4 ?_
  refine eL sh24 ?_
  refine eM ?_
  obtain ⟨x13, e13, h0⟩ := bind_e h0
  refine eP (fun H hH => yv_ixT rfl Tryz.underlying24 sh23 rfl rfl e13) ?_
  refine eP (fun H hH => yv_load rfl sh23 rfl (.pp _) rfl) ?_
  refine eM ?_
  obtain ⟨x14, e14, h0⟩ := bind_e h0
  refine eP (fun H hH => yv_ixT rfl Tryz.underlying23 sh3 rfl rfl e14) ?_
  refine eP (fun H hH => yv_load rfl sh3 rfl (.pp _) rfl) ?_
  refine eF fo32_1 ?_
  refine eL sh27 ?_
  refine eM ?_
  obtain ⟨x15, e15, h0⟩ := bind_e h0
  refine eP (fun H hH => yv_to (y := .pp [int x15.Now, boo x15.Closed, lst 4 GPool.av x15.Pools, lst 1 fI x15.Bal, lst 11 GRoll.av x15.Rolls, lst 1 fI x15.Prices, lst 1 fI x15.Down, lst 8 GEnt.av x15.Ahead]) (yv_ixT rfl Tryz.underlying27 sh47 rfl rfl e15) (congrArg AV.pp (GEnt.av_eq x15))) ?_
  refine eP (fun H hH => yv_fieldAddr rfl fo47_2 rfl (.pp _) (.pp _ _)) ?_
  refine eP (fun H hH => yv_load rfl sh44 rfl (.pp _) rfl) ?_
  refine eM ?_
  obtain ⟨x16, e16, h0⟩ := bind_e h0
  refine eP (fun H hH => yv_ixT rfl Tryz.underlying44 sh42 rfl rfl e16) ?_
  refine eP (fun H hH => yv_load rfl sh42 rfl (.pp _) rfl) ?_
  refine eL sh50 ?_
  obtain ⟨x17, e17, h0⟩ := bind_e h0
  refine eP (fun H hH => yv_callP rfl rfl (.cons rfl (.cons rfl (.cons rfl (.cons rfl .nil)))) cal47 (CvL.refl _) (d_pool_In_c e17)) ?_
  refine eM ?_
  iterate 3 refine eX ?_
  refine de_eff rfl rfl rfl rfl (yl_alloc 4 .any rfl z42 rfl) (by rintro _ _ ⟨v18, -, rfl, rfl⟩; exact ⟨rfl, rfl, trivial⟩) ?_; rintro _ _ ⟨v18, -, rfl, rfl⟩
  refine de_eff0 rfl rfl rfl rfl (Yield.weak (yl_ob (ob' := (⟨42, 4, true, true, v18, [[lst 3 GLayer.av x17.1.Layers, int x17.1.Pend.a0, int x17.1.Pend.a1, int x17.1.Pend.a2]]⟩ : AObj)) (yl_store rfl sh42 rfl rfl rfl rfl rfl rfl rfl rfl rfl) rfl) (fun _ h => h) (fun _ _ => trivial)) (by rintro _ _ ⟨rfl, rfl⟩; exact trivial) ?_; rintro _ _ ⟨rfl, rfl⟩
  iterate 2 refine eA ?_
  refine de_nil (hK _ ?_)
  refine tc tbk 4 (.mk ?_)
  refine nb tbk h0 fun x19 h0 => ?_
  refine tr tbk 1 (.mk ?_)
  cases x19
  replace h0 := cf h0
  refine tc tbk 5 (.mk ?_)
  refine sY (yv_build (cs := (GState.av a1)) (ps := [(0, _)]) rfl pl93 z93 rfl (.cons rfl .nil) (by kernel_rfl)) ?_
  refine sA 5 z93 fun v20 => ?_
  refine sS ⟨93, 10, true, true, v20, [(GState.av a1)]⟩ sh93 ?_
  refine tr tbk 6 (.mk ?_)
  obtain ⟨j21, h1, h0⟩ := bind_e h0
  refine rse (Out := fun y H' => (∃ (a : Int × Bool × (List Int) × (List GRoll) × (List Int) × (List Int) × (List GEnt) × (List GPool)) (k : Nat × Nat), a = j21 ∧ y = .tup [] ∧ H' = hk [(1, ⟨32, 10, true, true, v6, [(GState.av a1)]⟩), (2, ⟨50, 3, true, true, v7, [[int a5.Qty, int a5.Value, int a5.Profit]]⟩), (3, ⟨32, 10, true, true, v8, [[int 0, int 0, .sc (.slice none 0 0), .sc (.slice none 0 0), .sc (.slice none 0 0), .sc (.slice none 0 0), .sc (.slice none 0 0), .sc (.slice none 0 0), .sc (.slice none 0 0), int 0]]⟩), (4, ⟨42, 4, true, true, v18, [[lst 3 GLayer.av x17.1.Layers, int x17.1.Pend.a0, int x17.1.Pend.a1, int x17.1.Pend.a2]]⟩), (5, ⟨93, 10, true, true, v20, [[int a1.Master.Entities, int a1.Master.Periods, lst 1 fI a1.Master.Weights, lst 1 (fL 1 fI) a1.Master.Methods, lst 1 (fL 1 fI) a1.Master.Costs, .sl 7 k.1 0 a1.Ents.length, lst 8 GReceipt.av a1.Receipts, lst 9 GSale.av a1.Sales, lst 6 GTransit.av a1.Transits, int a1.Done]]⟩), (7, ⟨47, 8, true, true, k.1, (a1.Ents.map GEnt.av).set (Int.toNat a2) [int a.1, boo a.2.1, .sl 8 k.2 0 a.2.2.2.2.2.2.2.length, lst 1 fI a.2.2.1, lst 11 GRoll.av a.2.2.2.1, lst 1 fI a.2.2.2.2.1, lst 1 fI a.2.2.2.2.2.1, lst 8 GEnt.av a.2.2.2.2.2.2.1]⟩), (8, ⟨42, 4, true, true, k.2, a.2.2.2.2.2.2.2.map GPool.av⟩)])) rfl rfl rfl (yl_call rfl rfl (.cons rfl (.cons rfl (.cons rfl (.cons rfl .nil)))) cal48 ?_) ?_
  refine pcw (c := _) Tryz.func48 rfl rfl ?_; intro Q hret hnorm
  refine tc tbk 2 (.mk ?_)
  refine sB 6 fun v22 => ?_
  refine tr tbk 5 (.mk ?_)
  obtain ⟨j23, h2, h1⟩ := bind_e h1
  refine rse (Out := fun y H' => (∃ (a : Unit) (k : Nat), a = j23 ∧ y = .pt 7 k (Int.toNat a2) 0 ∧ H' = hk [(1, ⟨32, 10, true, true, v6, [(GState.av a1)]⟩), (2, ⟨50, 3, true, true, v7, [[int a5.Qty, int a5.Value, int a5.Profit]]⟩), (3, ⟨32, 10, true, true, v8, [[int 0, int 0, .sc (.slice none 0 0), .sc (.slice none 0 0), .sc (.slice none 0 0), .sc (.slice none 0 0), .sc (.slice none 0 0), .sc (.slice none 0 0), .sc (.slice none 0 0), int 0]]⟩), (4, ⟨42, 4, true, true, v18, [[lst 3 GLayer.av x17.1.Layers, int x17.1.Pend.a0, int x17.1.Pend.a1, int x17.1.Pend.a2]]⟩), (5, ⟨93, 10, true, true, v20, [[int a1.Master.Entities, int a1.Master.Periods, lst 1 fI a1.Master.Weights, lst 1 (fL 1 fI) a1.Master.Methods, lst 1 (fL 1 fI) a1.Master.Costs, .sl 7 k 0 a1.Ents.length, lst 8 GReceipt.av a1.Receipts, lst 9 GSale.av a1.Sales, lst 6 GTransit.av a1.Transits, int a1.Done]]⟩), (6, ⟨42, 4, true, true, v22, [[lst 3 GLayer.av x17.1.Layers, int x17.1.Pend.a0, int x17.1.Pend.a1, int x17.1.Pend.a2]]⟩), (7, ⟨47, 8, true, true, k, a1.Ents.map GEnt.av⟩)])) rfl rfl rfl (yl_call rfl rfl (.cons rfl (.cons rfl .nil)) cal97 ?_) ?_
  refine pcw (c := _) Tryz.func97 rfl rfl ?_; intro Q hret hnorm
  refine tc tbk 12 (.mk ?_)
  obtain ⟨p24, h2⟩ := asrt_e h2
  refine rse rfl rfl rfl (yl_call rfl rfl (.cons rfl .nil) cal121 (pc_cv (clone121_c (id := 7) (l := a1.Ents) rfl p24) (.cons (.refl _) .nil))) ?_; rintro _ _ ⟨v25, rfl, rfl⟩
  refine tr tbk 3 (.mk ?_)
  refine sS ⟨93, 10, true, true, v20, [[int a1.Master.Entities, int a1.Master.Periods, lst 1 fI a1.Master.Weights, lst 1 (fL 1 fI) a1.Master.Methods, lst 1 (fL 1 fI) a1.Master.Costs, .sl 7 v25 0 a1.Ents.length, lst 8 GReceipt.av a1.Receipts, lst 9 GSale.av a1.Sales, lst 6 GTransit.av a1.Transits, int a1.Done]]⟩ sh27 ?_
  refine tr tbk 9 (.mk ?_)
  obtain ⟨x26, e26, h2⟩ := bind_e h2
  refine sY (yv_ixO rfl Tryz.underlying27 sh47 rfl rfl rfl rfl rfl (Eq.symm rfl) (List.length_map _) e26) ?_
  refine tr tbk 2 (.mk ?_)
  obtain rfl := nxt_e h2
  refine w_ret (hret _ _ (hk [(1, ⟨32, 10, true, true, v6, [(GState.av a1)]⟩), (2, ⟨50, 3, true, true, v7, [[int a5.Qty, int a5.Value, int a5.Profit]]⟩), (3, ⟨32, 10, true, true, v8, [[int 0, int 0, .sc (.slice none 0 0), .sc (.slice none 0 0), .sc (.slice none 0 0), .sc (.slice none 0 0), .sc (.slice none 0 0), .sc (.slice none 0 0), .sc (.slice none 0 0), int 0]]⟩), (4, ⟨42, 4, true, true, v18, [[lst 3 GLayer.av x17.1.Layers, int x17.1.Pend.a0, int x17.1.Pend.a1, int x17.1.Pend.a2]]⟩), (5, ⟨93, 10, true, true, v20, [[int a1.Master.Entities, int a1.Master.Periods, lst 1 fI a1.Master.Weights, lst 1 (fL 1 fI) a1.Master.Methods, lst 1 (fL 1 fI) a1.Master.Costs, .sl 7 v25 0 a1.Ents.length, lst 8 GReceipt.av a1.Receipts, lst 9 GSale.av a1.Sales, lst 6 GTransit.av a1.Transits, int a1.Done]]⟩), (6, ⟨42, 4, true, true, v22, [[lst 3 GLayer.av x17.1.Layers, int x17.1.Pend.a0, int x17.1.Pend.a1, int x17.1.Pend.a2]]⟩), (7, ⟨47, 8, true, true, v25, a1.Ents.map GEnt.av⟩)]) (.tmp rfl .nil) (HK.le ⟨rfl, rfl, rfl, rfl, rfl, rfl, rfl, trivial⟩) ?_)
  exact ⟨(), v25, rfl, rfl, rfl⟩
  rintro y _ ⟨_, w0_1, rfl, hc, rfl⟩
  subst hc
  refine tr tbk 6 (.mk ?_)
  obtain ⟨x27, e27, h1⟩ := bind_e h1
  refine sY (yv_nilCheck rfl rfl (.pt rfl rfl (ix_get' e27 (GEnt.av_eq _)))) ?_
  refine sY (yv_fieldAddr rfl fo47_2 rfl (.pt rfl rfl (ix_get' e27 (GEnt.av_eq _))) (.pt _ _ _ _ _)) ?_
  refine sY (yv_load rfl sh44 rfl (.pt rfl rfl (ix_get' e27 (GEnt.av_eq _))) rfl) ?_
  obtain ⟨p28, h1⟩ := asrt_e h1
  refine rse rfl rfl rfl (yl_call rfl rfl (.cons rfl .nil) cal98 (pc_cv (clone98_c (id := 8) (l := x27.Pools) rfl p28) (.cons (.refl _) .nil))) ?_; rintro _ _ ⟨v29, rfl, rfl⟩
  refine sY (yv_nilCheck rfl rfl (.pt rfl rfl (ix_get' e27 (GEnt.av_eq _)))) ?_
  refine sY (yv_fieldAddr rfl fo47_2 rfl (.pt rfl rfl (ix_get' e27 (GEnt.av_eq _))) (.pt _ _ _ _ _)) ?_
  refine rsstore rfl rfl (yl_ob (ob' := (⟨47, 8, true, true, w0_1, (a1.Ents.map GEnt.av).set (Int.toNat a2) [int x27.Now, boo x27.Closed, .sl 8 v29 0 x27.Pools.length, lst 1 fI x27.Bal, lst 11 GRoll.av x27.Rolls, lst 1 fI x27.Prices, lst 1 fI x27.Down, lst 8 GEnt.av x27.Ahead]⟩ : AObj)) (yl_store rfl sh44 rfl rfl rfl rfl rfl (ix_get' e27 (GEnt.av_eq _)) rfl rfl rfl) (ob_eq rfl)) ?_
  refine tr tbk 1 (.mk ?_)
  refine c_drawE [0, 1, 3, 7, 0, 0, 63, 127] (rl [(1, [7]), (2, [7]), (3, [7]), (5, [6]), (6, [8])] []) (rl [(7, [])] [6, 7, 8]) (rl [(7, false)] true) [0, 1, 2, 3, 4, 5, 6, 7] mixed (by kernel_rfl) ?_; intro K hK
  refine eM ?_
  refine eN (hr := set_get e27) ?_
  refine eF fo47_2 (hr := set_get e27) ?_
  refine eL sh44 (hr := set_get e27) ?_
  refine eM ?_
  refine eL sh42 ?_
  obtain ⟨x30, e30, h1⟩ := bind_e h1
  refine de_pure rfl rfl rfl rfl (fun H hH => yv_ixO rfl Tryz.underlying44 sh42 rfl rfl ((hH _ (by decide)).trans rfl) rfl rfl (Eq.symm rfl) (List.length_map _) e30) ?_
  obtain ⟨x31, e31, h1⟩ := bnd_e h1
  have fx31 := ix_set e30 e31; have lx31 := len_setV e31 (rfl : x27.Pools.length = x27.Pools.length)
  refine de_eff0 rfl rfl rfl rfl (Yield.weak (yl_ob (ob' := (⟨42, 4, true, true, v29, x31.map GPool.av⟩ : AObj)) (yl_store rfl sh42 rfl rfl rfl rfl rfl (ix_get e30) rfl rfl rfl) (ob_eq (map_setV e31))) (fun _ h => h) (fun _ _ => trivial)) (by rintro _ _ ⟨rfl, rfl⟩; exact trivial) ?_; rintro _ _ ⟨rfl, rfl⟩
  refine de_nil (hK _ ?_)
  obtain rfl := nxt_e h1
  refine c_nil (hnorm _ _ (hk [(1, ⟨32, 10, true, true, v6, [(GState.av a1)]⟩), (2, ⟨50, 3, true, true, v7, [[int a5.Qty, int a5.Value, int a5.Profit]]⟩), (3, ⟨32, 10, true, true, v8, [[int 0, int 0, .sc (.slice none 0 0), .sc (.slice none 0 0), .sc (.slice none 0 0), .sc (.slice none 0 0), .sc (.slice none 0 0), .sc (.slice none 0 0), .sc (.slice none 0 0), int 0]]⟩), (4, ⟨42, 4, true, true, v18, [[lst 3 GLayer.av x17.1.Layers, int x17.1.Pend.a0, int x17.1.Pend.a1, int x17.1.Pend.a2]]⟩), (5, ⟨93, 10, true, true, v20, [[int a1.Master.Entities, int a1.Master.Periods, lst 1 fI a1.Master.Weights, lst 1 (fL 1 fI) a1.Master.Methods, lst 1 (fL 1 fI) a1.Master.Costs, .sl 7 w0_1 0 a1.Ents.length, lst 8 GReceipt.av a1.Receipts, lst 9 GSale.av a1.Sales, lst 6 GTransit.av a1.Transits, int a1.Done]]⟩), (7, ⟨47, 8, true, true, w0_1, (a1.Ents.map GEnt.av).set (Int.toNat a2) [int x27.Now, boo x27.Closed, .sl 8 v29 0 x31.length, lst 1 fI x27.Bal, lst 11 GRoll.av x27.Rolls, lst 1 fI x27.Prices, lst 1 fI x27.Down, lst 8 GEnt.av x27.Ahead]⟩), (8, ⟨42, 4, true, true, v29, x31.map GPool.av⟩)]) .nil (HK.le ⟨rfl, rfl, rfl, rfl, rfl, (by first | rfl | exact lx31 ▸ rfl), rfl, trivial⟩) ?_)
  exact ⟨(x27.Now, x27.Closed, x27.Bal, x27.Rolls, x27.Prices, x27.Down, x27.Ahead, x31), (w0_1, v29), rfl, rfl, rfl⟩
  rintro y _ ⟨⟨y1_2, y1_3, y1_5, y1_6, y1_7, y1_8, y1_9, y1_10⟩, ⟨w1_1, w1_4⟩, rfl, hc, rfl⟩
  replace h0 := p2_e h0
  replace h0 := p2_e h0
  replace h0 := p2_e h0
  replace h0 := p2_e h0
  replace h0 := p2_e h0
  replace h0 := p2_e h0
  replace h0 := p2_e h0
  subst hc
  obtain ⟨x32, e32, h0⟩ := bind_e h0
  refine tr tbk 8 (.mk ?_)
  obtain ⟨x33, e33, h0⟩ := bind_e h0
  refine sY (yv_callT (v := .tup [.agg [int x33.1.Qty, int x33.1.Value, int x33.1.Profit], boo x33.2]) rfl rfl (.cons rfl (.cons rfl (.cons rfl .nil))) cal49 (.cons (CvL.agg (.cons (.refl _) (.cons (.refl _) (.cons (.refl _) (.cons (.refl _) (.cons (.refl _) (.cons (cv_ov rfl rfl rfl rfl rfl (Eq.symm rfl) e32 (cvl_to (.cons (.refl _) (.cons (.refl _) (.cons (cv_lst rfl rfl rfl rfl rfl (Eq.symm rfl)) (.cons (.refl _) (.cons (.refl _) (.cons (.refl _) (.cons (.refl _) (.cons (.refl _) .nil)))))))) (GEnt.av_eq _))) (.cons (.refl _) (.cons (.refl _) (.cons (.refl _) (.cons (.refl _) .nil))))))))))) (.cons (.refl _) (.cons (.refl _) .nil))) (d_stock_worth_c e33) rfl) ?_
  refine tr tbk 3 (.mk ?_)
  refine sA 9 z50 fun v34 => ?_
  refine sS ⟨50, 3, true, true, v34, [[int x33.1.Qty, int x33.1.Value, int x33.1.Profit]]⟩ sh50 ?_
  refine tr tbk 3 (.mk ?_)
  refine jn h0 [5, 9, 10, 11, 12, 13, 17] [1, 2, 3, 5, 7, 8] (fun (a : Bool) (k : Unit) => [(88, boo a)]) (fun a k => []) ⟨fun j35 h1 => ?_, ?_⟩
  refine tc tbk 2 (.mk ?_)
  refine nb tbk h1 fun x36 h1 => ?_
  refine tr tbk 1 (.mk ?_)
  cases x36
  replace h1 := cf h1
  refine tr tbk 4 (.mk ?_)
  obtain ⟨x37, e37, h1⟩ := bind_e h1
  refine sY (yv_callT (v := boo x37) rfl rfl (.cons rfl (.cons rfl (.cons rfl .nil))) cal50 (.cons (CvL.agg (.cons (.refl _) (.cons (.refl _) (.cons (.refl _) (.cons (.refl _) (.cons (.refl _) (.cons (cv_ov rfl rfl rfl rfl rfl (Eq.symm rfl) e32 (cvl_to (.cons (.refl _) (.cons (.refl _) (.cons (cv_lst rfl rfl rfl rfl rfl (Eq.symm rfl)) (.cons (.refl _) (.cons (.refl _) (.cons (.refl _) (.cons (.refl _) (.cons (.refl _) .nil)))))))) (GEnt.av_eq _))) (.cons (.refl _) (.cons (.refl _) (.cons (.refl _) (.cons (.refl _) .nil))))))))))) (.cons (.refl _) (.cons (.refl _) .nil))) (d_stock_steady_c e37) rfl) ?_
  refine nb tbk h1 fun x38 h1 => ?_
  refine tr tbk 2 (.mk ?_)
  exact lf h1 () leA
  replace h1 := ct h1
  refine tr tbk 8 (.mk ?_)
  exact lf h1 () leA
  rintro y2_1 _ h0
  cases y2_1
  replace h0 := cf h0
  refine tc tbk 3 (.mk ?_)
  refine c_drawE [0, 1, 0, 4, 0, 28, 0, 3, 191, 511, 1023] (rl [(0, [5]), (1, [5]), (2, [2]), (3, [2])] []) (rl [(7, [2])] [2, 5]) (rl [(7, false)] true) [0, 1, 2, 3, 4, 5, 6, 7, 8, 9, 10] mixed (by kernel_rfl) ?_; intro K hK
  refine eF fo93_0 ?_
  refine eL sh32 ?_
  refine eF fo50_1 ?_
  refine eL sh3 ?_
  refine eM ?_
  obtain ⟨x39, e39, h0⟩ := bnd_e h0
  refine eP (fun H hH => yv_sub rfl rfl rfl e39) ?_
  refine eM ?_
  refine de_eff0 rfl rfl rfl rfl (Yield.weak (yl_ob (ob' := (⟨32, 10, true, true, v8, [[int a1.Master.Entities, int a1.Master.Periods, lst 1 fI a1.Master.Weights, lst 1 (fL 1 fI) a1.Master.Methods, lst 1 (fL 1 fI) a1.Master.Costs, .sl 7 w1_1 0 a1.Ents.length, lst 8 GReceipt.av a1.Receipts, lst 9 GSale.av a1.Sales, lst 6 GTransit.av a1.Transits, int a1.Done]]⟩ : AObj)) (yl_store rfl sh32 rfl rfl rfl rfl rfl rfl rfl rfl rfl) rfl) (fun _ h => h) (fun _ _ => trivial)) (by rintro _ _ ⟨rfl, rfl⟩; exact ⟨rfl, trivial⟩) ?_; rintro _ _ ⟨rfl, rfl⟩
  iterate 3 refine eA ?_
  refine de_nil (hK _ ?_)
  obtain rfl := nxt_e h0
  refine wR hret (rC sh32 (rT (rT (rT .nil)))) ?_
  exact CvL.tup (.cons (CvL.agg (.cons (.refl _) (.cons (.refl _) (.cons (.refl _) (.cons (.refl _) (.cons (.refl _) (.cons (cv_ov rfl rfl rfl rfl rfl (Eq.symm rfl) e32 (cvl_to (.cons (.refl _) (.cons (.refl _) (.cons (cv_lst rfl rfl rfl rfl rfl (Eq.symm rfl)) (.cons (.refl _) (.cons (.refl _) (.cons (.refl _) (.cons (.refl _) (.cons (.refl _) .nil)))))))) (GEnt.av_eq _))) (.cons (.refl _) (.cons (.refl _) (.cons (.refl _) (.cons (.refl _) .nil))))))))))) (.cons (.refl _) (.cons (.refl _) (.cons (.refl _) .nil))))
  replace h0 := ct h0
  refine tc tbk 4 (.mk ?_)
  refine sS ⟨32, 10, true, true, v8, [(GState.av a1)]⟩ sh32 ?_
  refine tr tbk 4 (.mk ?_)
  obtain rfl := nxt_e h0
  refine wR hret (rC sh32 (rT (rT (rT .nil)))) ?_
  exact .refl _
  replace h0 := ct h0
  refine tc tbk 5 (.mk ?_)
  refine sS ⟨32, 10, true, true, v8, [(GState.av a1)]⟩ sh32 ?_
  refine tr tbk 4 (.mk ?_)
  obtain rfl := nxt_e h0
  refine wR hret (rC sh32 (rT (rT (rT .nil)))) ?_
  exact .refl _
  replace h0 := ct h0
  refine tc tbk 4 (.mk ?_)
  refine sS ⟨32, 10, true, true, v8, [(GState.av a1)]⟩ sh32 ?_
  refine tr tbk 4 (.mk ?_)
  obtain rfl := nxt_e h0
  refine wR hret (rC sh32 (rT (rT (rT .nil)))) ?_
  exact .refl _
def d_ship_line (a1 : Int) (a2 : Int) : Option (GLine) :=
some (((⟨a1, a2⟩ : GLine) : GLine))
theorem d_ship_line_c {a1 : Int} {a2 : Int} {r : GLine} (h0 : d_ship_line a1 a2 = some r) : PP Tryz.prog 83 [int a1, int a2] (fun y => y = .agg (GLine.av r)) := by
  unfold d_ship_line at h0
  refine pp_of_pc (R0 := fun y H => Cv (frzH H) y (.agg (GLine.av r))) ?_ (fun y H hc => ⟨_, rfl, (fun (a : GLine) => PV.agg (GLine.pvc a)) r, hc⟩)
  refine pcw (c := _) Tryz.func83 rfl rfl ?_; intro Q hret hnorm
  refine tc tbk 2 (.mk ?_)
  refine sA 1 z81 fun v3 => ?_
  refine tr tbk 6 (.mk ?_)
  refine sS ⟨81, 2, true, true, v3, [[int a1, int a2]]⟩ sh81 ?_
  refine tr tbk 1 (.mk ?_)
  obtain rfl := nxt_e h0
  refine wR hret (rC sh81 .nil) ?_
  exact .refl _
def d_voucher_is (a1 : Int) : Option (Bool) :=
(show Option (Bool) from
bnd (decide (a1 ≥ 0)) fun x3 =>
cond x3 (bnd (decide (a1 < 17)) fun x4 =>
some (x4 : Bool)) (some (false : Bool))).bind <| fun y0_1 =>
some ((y0_1 : Bool))
theorem d_voucher_is_c {a1 : Int} {r : Bool} (h0 : d_voucher_is a1 = some r) : PP Tryz.prog 153 [int a1] (fun y => y = boo r) := by
  unfold d_voucher_is at h0
  refine pp_of_pc (R0 := fun y H => Cv (frzH H) y (boo r)) ?_ (fun y H hc => ⟨_, rfl, pvB r, hc⟩)
  refine pcw (c := _) Tryz.func153 rfl rfl ?_; intro Q hret hnorm
  refine tc tbk 5 (.mk ?_)
  refine jn h0 [] [] (fun (a : Bool) (k : Unit) => [(2, boo a)]) (fun a k => []) ⟨fun j2 h1 => ?_, ?_⟩
  refine tc tbk 2 (.mk ?_)
  refine nb tbk h1 fun x3 h1 => ?_
  refine tr tbk 1 (.mk ?_)
  cases x3
  replace h1 := cf h1
  refine tr tbk 5 (.mk ?_)
  exact lf h1 () leA
  replace h1 := ct h1
  refine tr tbk 1 (.mk ?_)
  refine nb tbk h1 fun x4 h1 => ?_
  refine tr tbk 3 (.mk ?_)
  exact lf h1 () leA
  rintro y0_1 _ h0
  obtain rfl := nxt_e h0
  refine wR hret (rT .nil) ?_
  exact .refl _
def d_voucher_in (a1 : Int) : Option (Bool) :=
(show Option (Bool) from
bnd (decide (a1 ≥ (-288230376151711744))) fun x3 =>
cond x3 (bnd (decide (a1 ≤ 288230376151711744)) fun x4 =>
some (x4 : Bool)) (some (false : Bool))).bind <| fun y0_1 =>
some ((y0_1 : Bool))
theorem d_voucher_in_c {a1 : Int} {r : Bool} (h0 : d_voucher_in a1 = some r) : PP Tryz.prog 154 [int a1] (fun y => y = boo r) := by
  unfold d_voucher_in at h0
  refine pp_of_pc (R0 := fun y H => Cv (frzH H) y (boo r)) ?_ (fun y H hc => ⟨_, rfl, pvB r, hc⟩)
  refine pcw (c := _) Tryz.func154 rfl rfl ?_; intro Q hret hnorm
  refine tc tbk 5 (.mk ?_)
  refine jn h0 [] [] (fun (a : Bool) (k : Unit) => [(2, boo a)]) (fun a k => []) ⟨fun j2 h1 => ?_, ?_⟩
  refine tc tbk 2 (.mk ?_)
  refine nb tbk h1 fun x3 h1 => ?_
  refine tr tbk 1 (.mk ?_)
  cases x3
  replace h1 := cf h1
  refine tr tbk 5 (.mk ?_)
  exact lf h1 () leA
  replace h1 := ct h1
  refine tr tbk 1 (.mk ?_)
  refine nb tbk h1 fun x4 h1 => ?_
  refine tr tbk 3 (.mk ?_)
  exact lf h1 () leA
  rintro y0_1 _ h0
  obtain rfl := nxt_e h0
  refine wR hret (rT .nil) ?_
  exact .refl _
def d_voucher_Plain_1 (a1 : GLine) : Option (Bool) :=
(show Option (Bool) from
(d_voucher_is a1.Account).bind fun x4 =>
bnd (!x4) fun x5 =>
cond x5 (some (true : Bool)) ((d_voucher_in a1.Amount).bind fun x6 =>
bnd (!x6) fun x7 =>
some (x7 : Bool))).bind <| fun y0_1 =>
some ((y0_1 : Bool))
theorem d_voucher_Plain_1_c {a1 : GLine} {r : Bool} (h0 : d_voucher_Plain_1 a1 = some r) : PP Tryz.prog 152 [.agg (GLine.av a1)] (fun y => y = boo r) := by
  unfold d_voucher_Plain_1 at h0
  refine pp_of_pc (R0 := fun y H => Cv (frzH H) y (boo r)) ?_ (fun y H hc => ⟨_, rfl, pvB r, hc⟩)
  refine pcw (c := _) Tryz.func152 rfl rfl ?_; intro Q hret hnorm
  refine tc tbk 2 (.mk ?_)
  refine sB 1 fun v2 => ?_
  refine tr tbk 3 (.mk ?_)
  refine jn h0 [] [] (fun (a : Bool) (k : Unit) => [(2, boo a)]) (fun a k => []) ⟨fun j3 h1 => ?_, ?_⟩
  refine tc tbk 3 (.mk ?_)
  obtain ⟨x4, e4, h1⟩ := bind_e h1
  refine sC cal153 (d_voucher_is_c e4) ?_
  refine nb tbk h1 fun x5 h1 => ?_
  refine tr tbk 1 (.mk ?_)
  cases x5
  replace h1 := cf h1
  refine tr tbk 2 (.mk ?_)
  obtain ⟨x6, e6, h1⟩ := bind_e h1
  refine sC cal154 (d_voucher_in_c e6) ?_
  refine nb tbk h1 fun x7 h1 => ?_
  refine tr tbk 3 (.mk ?_)
  exact lf h1 () leA
  replace h1 := ct h1
  refine tr tbk 7 (.mk ?_)
  exact lf h1 () leA
  rintro y0_1 _ h0
  obtain rfl := nxt_e h0
  refine wR hret (rT .nil) ?_
  exact .refl _
def d_voucher_Plain_2 (a1 : GLine) : Option (Int) :=
some ((a1.Account : Int))
theorem d_voucher_Plain_2_c {a1 : GLine} {r : Int} (h0 : d_voucher_Plain_2 a1 = some r) : PP Tryz.prog 157 [.agg (GLine.av a1)] (fun y => y = int r) := by
  unfold d_voucher_Plain_2 at h0
  refine pp_of_pc (R0 := fun y H => Cv (frzH H) y (int r)) ?_ (fun y H hc => ⟨_, rfl, pvI r, hc⟩)
  refine pcw (c := _) Tryz.func157 rfl rfl ?_; intro Q hret hnorm
  refine tc tbk 2 (.mk ?_)
  refine sB 1 fun v2 => ?_
  refine tr tbk 8 (.mk ?_)
  obtain rfl := nxt_e h0
  refine wR hret (rT .nil) ?_
  exact .refl _
def d_cmp_isNaN_int (a1 : Int) : Option (Bool) :=
bnd (decide (a1 ≠ a1)) fun x2 =>
some ((x2 : Bool))
theorem d_cmp_isNaN_int_c {a1 : Int} {r : Bool} (h0 : d_cmp_isNaN_int a1 = some r) : PP Tryz.prog 223 [int a1] (fun y => y = boo r) := by
  unfold d_cmp_isNaN_int at h0
  refine pp_of_pc (R0 := fun y H => Cv (frzH H) y (boo r)) ?_ (fun y H hc => ⟨_, rfl, pvB r, hc⟩)
  refine pcw (c := _) Tryz.func223 rfl rfl ?_; intro Q hret hnorm
  refine tc tbk 8 (.mk ?_)
  refine nb tbk h0 fun x2 h0 => ?_
  refine tr tbk 2 (.mk ?_)
  obtain rfl := nxt_e h0
  refine wR hret (rT .nil) ?_
  exact .refl _
def d_cmp_Compare_int (a1 : Int) (a2 : Int) : Option (Int) :=
(d_cmp_isNaN_int a1).bind fun x3 =>
(d_cmp_isNaN_int a2).bind fun x4 =>
cond x3 (cond x4 (some ((0 : Int))) (some (((-1) : Int)))) (cond x4 (some ((1 : Int))) (bnd (decide (a1 < a2)) fun x5 =>
cond x5 (some (((-1) : Int))) (bnd (decide (a1 > a2)) fun x6 =>
cond x6 (some ((1 : Int))) (some ((0 : Int))))))
theorem d_cmp_Compare_int_c {a1 : Int} {a2 : Int} {r : Int} (h0 : d_cmp_Compare_int a1 a2 = some r) : PP Tryz.prog 194 [int a1, int a2] (fun y => y = int r) := by
  unfold d_cmp_Compare_int at h0
  refine pp_of_pc (R0 := fun y H => Cv (frzH H) y (int r)) ?_ (fun y H hc => ⟨_, rfl, pvI r, hc⟩)
  refine pcw (c := _) Tryz.func194 rfl rfl ?_; intro Q hret hnorm
  refine tc tbk 7 (.mk ?_)
  obtain ⟨x3, e3, h0⟩ := bind_e h0
  refine sC cal223 (d_cmp_isNaN_int_c e3) ?_
  refine tr tbk 5 (.mk ?_)
  obtain ⟨x4, e4, h0⟩ := bind_e h0
  refine sC cal223 (d_cmp_isNaN_int_c e4) ?_
  refine tr tbk 7 (.mk ?_)
  cases x3
  replace h0 := cf h0
  refine tc tbk 7 (.mk ?_)
  cases x4
  replace h0 := cf h0
  refine tc tbk 7 (.mk ?_)
  refine nb tbk h0 fun x5 h0 => ?_
  refine tr tbk 1 (.mk ?_)
  cases x5
  replace h0 := cf h0
  refine tc tbk 7 (.mk ?_)
  refine nb tbk h0 fun x6 h0 => ?_
  refine tr tbk 1 (.mk ?_)
  cases x6
  replace h0 := cf h0
  refine tc tbk 6 (.mk ?_)
  obtain rfl := nxt_e h0
  refine wR hret (rT .nil) ?_
  exact .refl _
  replace h0 := ct h0
  refine tc tbk 5 (.mk ?_)
  obtain rfl := nxt_e h0
  refine wR hret (rT .nil) ?_
  exact .refl _
  replace h0 := ct h0
  refine tc tbk 5 (.mk ?_)
  obtain rfl := nxt_e h0
  refine wR hret (rT .nil) ?_
  exact .refl _
  replace h0 := ct h0
  refine tc tbk 5 (.mk ?_)
  obtain rfl := nxt_e h0
  refine wR hret (rT .nil) ?_
  exact .refl _
  replace h0 := ct h0
  refine tc tbk 6 (.mk ?_)
  cases x4
  replace h0 := cf h0
  refine tc tbk 6 (.mk ?_)
  obtain rfl := nxt_e h0
  refine wR hret (rT .nil) ?_
  exact .refl _
  replace h0 := ct h0
  refine tc tbk 5 (.mk ?_)
  obtain rfl := nxt_e h0
  refine wR hret (rT .nil) ?_
  exact .refl _
def d_voucher_Plain_3 (a1 : GLine) : Option (Bool) :=
bnd (decide (a1.Amount = 0)) fun x3 =>
some ((x3 : Bool))
theorem d_voucher_Plain_3_c {a1 : GLine} {r : Bool} (h0 : d_voucher_Plain_3 a1 = some r) : PP Tryz.prog 159 [.agg (GLine.av a1)] (fun y => y = boo r) := by
  unfold d_voucher_Plain_3 at h0
  refine pp_of_pc (R0 := fun y H => Cv (frzH H) y (boo r)) ?_ (fun y H hc => ⟨_, rfl, pvB r, hc⟩)
  refine pcw (c := _) Tryz.func159 rfl rfl ?_; intro Q hret hnorm
  refine tc tbk 2 (.mk ?_)
  refine sB 1 fun v2 => ?_
  refine tr tbk 6 (.mk ?_)
  refine nb tbk h0 fun x3 h0 => ?_
  refine tr tbk 2 (.mk ?_)
  obtain rfl := nxt_e h0
  refine wR hret (rT .nil) ?_
  exact .refl _
end Go.Pv
