import Derived.Test.YtppokdmifjmdfaaGreatK33
set_option linter.unusedVariables false
namespace Go.Pv
open Go.Proofs
set_option maxRecDepth 10000
set_option maxHeartbeats 1000000
def d_ref14_Turn_L0 (a1 : GState) (a2 : Int) (a3 : Int) (a4 : GRoll) (x13 : A11_Int) : Nat → Int → (List Int) → Option (((List Int)) ⊕ (GState × Int))
  | 0, _, _ => none
  | n + 1, y0_1, y0_2 =>
    bnd (decide (y0_1 < 11)) fun x17 =>
    cond x17 (asrt ((0 : Int) ≤ y0_1 ∧ y0_1 < (11 : Int)) <|
    (ix y0_2 y0_1).bind fun x19 =>
    asrt ((0 : Int) ≤ y0_1 ∧ y0_1 < (11 : Int)) <|
    (ix ([x13.a0, x13.a1, x13.a2, x13.a3, x13.a4, x13.a5, x13.a6, x13.a7, x13.a8, x13.a9, x13.a10] : List Int) y0_1).bind fun x21 =>
    (d_ref01_Add x19 x21).bind fun x22 =>
    bnd (decide (x22.2 ≠ 0)) fun x23 =>
    cond x23 (esc (some ((a1 : GState), (x22.2 : Int)))) (asrt ((0 : Int) ≤ y0_1 ∧ y0_1 < (11 : Int)) <|
    bnd (y0_2.set (Int.toNat y0_1) x22.1) fun x25 =>
    bnd (w64 (y0_1 + 1)) fun x26 =>
    d_ref14_Turn_L0 a1 a2 a3 a4 x13 n (x26 : Int) (x25 : List Int))) (brk (y0_2 : List Int))
def d_ref14_Turn (n : Nat) (a1 : GState) (a2 : Int) (a3 : Int) (a4 : GRoll) : Option (GState × Int) :=
(d_ref14_there a1 a2 a3).bind fun x8 =>
bnd (!x8) fun x9 =>
cond x9 (some ((a1 : GState), (4 : Int))) ((ix a1.Ents a2).bind fun x10 =>
(ix x10.Rolls a3).bind fun x11 =>
(d_ref14_Numbers x11).bind fun x12 =>
(d_ref14_Numbers a4).bind fun x13 =>
(show Option (((List Int)) ⊕ (GState × Int)) from
d_ref14_Turn_L0 a1 a2 a3 a4 x13 n (0 : Int) (([x12.a0, x12.a1, x12.a2, x12.a3, x12.a4, x12.a5, x12.a6, x12.a7, x12.a8, x12.a9, x12.a10] : List Int) : List Int)).bind <| sel <| fun y1_1 =>
(show Option ((Int × Bool × (List GEnt) × (List GPool) × (List Int) × (List GRoll) × (List Int) × (List Int))) from
asrt (a1.Ents.length ≤ 68719476736) <|
(ix a1.Ents a2).bind fun x33 =>
asrt (x33.Pools.length ≤ 68719476736) <|
asrt (x33.Bal.length ≤ 68719476736) <|
asrt (x33.Rolls.length ≤ 68719476736) <|
asrt (x33.Prices.length ≤ 68719476736) <|
asrt (x33.Down.length ≤ 68719476736) <|
some ((x33.Now : Int), (x33.Closed : Bool), (x33.Ahead : List GEnt), (x33.Pools : List GPool), (x33.Bal : List Int), (x33.Rolls : List GRoll), (x33.Prices : List Int), (x33.Down : List Int))).bind <| p2 fun (y2_2 : Int) (q0 : Bool × (List GEnt) × (List GPool) × (List Int) × (List GRoll) × (List Int) × (List Int)) => (p2 fun (y2_3 : Bool) (q1 : (List GEnt) × (List GPool) × (List Int) × (List GRoll) × (List Int) × (List Int)) => (p2 fun (y2_9 : List GEnt) (q2 : (List GPool) × (List Int) × (List GRoll) × (List Int) × (List Int)) => (p2 fun (y2_10 : List GPool) (q3 : (List Int) × (List GRoll) × (List Int) × (List Int)) => (p2 fun (y2_11 : List Int) (q4 : (List GRoll) × (List Int) × (List Int)) => (p2 fun (y2_12 : List GRoll) (q5 : (List Int) × (List Int)) => (p2 fun (y2_13 : List Int) (y2_14 : List Int) =>
(ix a1.Ents a2).bind fun x44 =>
asrt (y1_1.length = 11) <|
(d_ref14_Roll (⟨(y1_1.getD 0 0), (y1_1.getD 1 0), (y1_1.getD 2 0), (y1_1.getD 3 0), (y1_1.getD 4 0), (y1_1.getD 5 0), (y1_1.getD 6 0), (y1_1.getD 7 0), (y1_1.getD 8 0), (y1_1.getD 9 0), (y1_1.getD 10 0)⟩ : A11_Int)).bind fun x47 =>
(ix y2_12 a3).bind fun x48 =>
bnd (y2_12.set (Int.toNat a3) (x47 : GRoll)) fun x49 =>
some (((⟨a1.Master, (a1.Ents.set (Int.toNat a2) (⟨y2_2, y2_3, y2_10, y2_11, x49, y2_13, y2_14, y2_9⟩ : GEnt)), a1.Receipts, a1.Sales, a1.Transits, a1.Done⟩ : GState) : GState), (0 : Int))) q5) q4) q3) q2) q1) q0)
theorem d_ref14_Turn_c {n : Nat} {a1 : GState} {a2 : Int} {a3 : Int} {a4 : GRoll} {r : GState × Int} (h0 : d_ref14_Turn n a1 a2 a3 a4 = some r) : PP Tryz.prog 39 [.agg (GState.av a1), int a2, int a3, .agg (GRoll.av a4)] (fun y => y = .tup [.agg (GState.av r.1), int r.2]) := by
  unfold d_ref14_Turn at h0
  refine pp_of_pc (R0 := fun y H => Cv (frzH H) y (.tup [.agg (GState.av r.1), int r.2])) ?_ (fun y H hc => ⟨_, rfl, .tup (pvl2 ((fun (a : GState) => PV.agg (GState.pvc a)) (r.1)) (pvI (r.2))), hc⟩)
  refine pcw (c := _) Tryz.func39 rfl rfl ?_; intro Q hret hnorm
  refine tc tbk 2 (.mk ?_)
  refine sB 1 fun v5 => ?_
  refine sB 2 fun v6 => ?_
  refine sA 3 z32 fun v7 => ?_
  refine tr tbk 8 (.mk ?_)
  obtain ⟨x8, e8, h0⟩ := bind_e h0
  refine sC cal32 (d_ref14_there_c e8) ?_
  refine nb tbk h0 fun x9 h0 => ?_
  refine tr tbk 1 (.mk ?_)
  cases x9
  replace h0 := cf h0
  refine tc tbk 3 (.mk ?_)
  refine c_draw [0, 1, 0, 7, 15, 31, 0, 127, 255, 511, 0, 2047, 0, 0, 16383, 32767] (fun i k => bif Nat.beq i 0 then (Nat.beq k 1) else bif Nat.beq i 1 then (Nat.beq k 1) else bif Nat.beq i 10 then (Nat.beq k 2) else bif Nat.beq i 14 then (Nat.beq k 4) else bif Nat.beq i 15 then (Nat.beq k 5) else false) (fun i => bif Nat.beq i 12 then (some 4) else bif Nat.beq i 13 then (some 5) else bif Nat.beq i 14 then (some 4) else bif Nat.beq i 15 then (some 5) else none) mixed (by kernel_rfl) ?_; intro C K hK
  refine dg_pure rfl (fun H hH => yv_fieldAddr rfl fo32_1 rfl (.pt ((hH _ rfl).trans rfl) rfl rfl) (.pt _ _ _ _ _)) ?_
  refine dg_pure rfl (fun H hH => yv_load rfl sh27 rfl (.pt ((hH _ rfl).trans rfl) rfl rfl) rfl) ?_
  refine dg_pure rfl (fun H hH => yv_move rfl rfl) ?_
  obtain ⟨x10, e10, h0⟩ := bind_e h0
  refine dg_pure rfl (fun H hH => yv_to (y := .pp [int x10.Now, boo x10.Closed, lst 4 GPool.av x10.Pools, lst 1 fI x10.Bal, lst 11 GRoll.av x10.Rolls, lst 1 fI x10.Prices, lst 1 fI x10.Down, lst 8 GEnt.av x10.Ahead]) (yv_ixT rfl Tryz.underlying27 sh47 rfl rfl e10) (congrArg AV.pp (GEnt.av_eq x10))) ?_
  refine dg_pure rfl (fun H hH => yv_fieldAddr rfl fo47_4 rfl (.pp _) (.pp _ _)) ?_
  refine dg_pure rfl (fun H hH => yv_load rfl sh45 rfl (.pp _) rfl) ?_
  refine dg_pure rfl (fun H hH => yv_move rfl rfl) ?_
  obtain ⟨x11, e11, h0⟩ := bind_e h0
  refine dg_pure rfl (fun H hH => yv_ixT rfl Tryz.underlying45 sh54 rfl rfl e11) ?_
  refine dg_pure rfl (fun H hH => yv_load rfl sh54 rfl (.pp _) rfl) ?_
  obtain ⟨x12, e12, h0⟩ := bind_e h0
  refine dg_pure rfl (fun H hH => yv_callP rfl rfl (.cons rfl .nil) cal79 (CvL.refl _) (d_ref14_Numbers_c e12)) ?_
  refine dg_pure rfl (fun H hH => yv_load rfl sh54 rfl (.pt ((hH _ rfl).trans rfl) rfl rfl) rfl) ?_
  obtain ⟨x13, e13, h0⟩ := bind_e h0
  refine dg_pure rfl (fun H hH => yv_callP rfl rfl (.cons rfl .nil) cal79 (CvL.refl _) (d_ref14_Numbers_c e13)) ?_
  refine dg_eff rfl rfl (fun H hH => yl_alloc1 4 rfl z119 rfl) ?_; generalize C + 12 = v14
  refine dg_eff rfl rfl (fun H hH => yl_alloc1 5 rfl z119 rfl) ?_; generalize C + 13 = v15
  refine dg_store rfl rfl rfl (fun H hH => yl_ob (ob' := (⟨119, 11, true, true, v14, [[int x12.a0, int x12.a1, int x12.a2, int x12.a3, int x12.a4, int x12.a5, int x12.a6, int x12.a7, int x12.a8, int x12.a9, int x12.a10]]⟩ : AObj)) (yl_store rfl sh119 rfl rfl ((hH _ rfl).trans rfl) rfl rfl rfl rfl rfl rfl) rfl) ?_
  refine dg_store rfl rfl rfl (fun H hH => yl_ob (ob' := (⟨119, 11, true, true, v15, [[int x13.a0, int x13.a1, int x13.a2, int x13.a3, int x13.a4, int x13.a5, int x13.a6, int x13.a7, int x13.a8, int x13.a9, int x13.a10]]⟩ : AObj)) (yl_store rfl sh119 rfl rfl ((hH _ rfl).trans rfl) rfl rfl rfl rfl rfl rfl) rfl) ?_
  refine dg_nil (hK _ ?_)
  refine tc tbk 5 (.mk ?_)
  refine jnE h0 [1, 2, 4, 8, 9, 10] [1, 3] (fun (a : (List Int)) (k : Unit) => []) (fun a k => [(4, ⟨119, 11, true, true, v14, [a.map int]⟩)]) ⟨fun j16 h1 h0 => ?_, ?_⟩
  refine tc tbk 1 (.mk ?_)
  refine lp (fun n (a : Int × (List Int)) => d_ref14_Turn_L0 a1 a2 a3 a4 x13 n a.1 a.2) ((0 : Int), (([x12.a0, x12.a1, x12.a2, x12.a3, x12.a4, x12.a5, x12.a6, x12.a7, x12.a8, x12.a9, x12.a10] : List Int) : List Int)) () h1 [1, 2, 4, 8, 9, 10, 11] [1, 3, 5] (fun (a : Int × (List Int)) (k : Unit) => [(12, int a.1)]) (fun a k => [(4, ⟨119, 11, true, true, v14, [a.2.map int]⟩)]) (fun _ => rfl) ⟨leA, ?_⟩
  rintro n ⟨y0_1, y0_2⟩ _ hm h1
  replace h1 : d_ref14_Turn_L0 a1 a2 a3 a4 x13 (n + 1) y0_1 y0_2 = some _ := h1
  rw [d_ref14_Turn_L0] at h1
  refine tc tbk 4 (.mk ?_)
  refine nb tbk h1 fun x17 h1 => ?_
  refine tr tbk 1 (.mk ?_)
  cases x17
  replace h1 := cf h1
  refine tc tbk 2 (.mk ?_)
  exact lfE h1 () leA
  replace h1 := ct h1
  refine tc tbk 5 (.mk ?_)
  refine c_drawE [0, 1, 3, 0, 8, 24, 63, 127, 255, 255, 511, 2047] (rl [(1, [4]), (2, [4]), (4, [5]), (5, [5])] []) (fun i => [4, 5]) (fun i => true) [0, 1, 2, 3, 4, 5, 6, 7, 8, 9, 10, 11] mixed (by kernel_rfl) ?_; intro K hK
  refine eM ?_
  obtain ⟨p18, h1⟩ := asrt_e h1
  obtain ⟨x19, e19, h1⟩ := bind_e h1
  refine de_pure rfl rfl rfl rfl (fun H hH => yv_ixAR rfl Tryz.underlying119 sh3 rfl rfl ((hH _ (by decide)).trans rfl) rfl rfl p18) ?_
  refine de_pure rfl rfl rfl rfl (fun H hH => yv_ldAR rfl sh3 rfl ((hH _ (by decide)).trans rfl) rfl rfl e19) ?_
  refine eM ?_
  obtain ⟨p20, h1⟩ := asrt_e h1
  obtain ⟨x21, e21, h1⟩ := bind_e h1
  refine de_pure rfl rfl rfl rfl (fun H hH => yv_ixAR rfl Tryz.underlying119 sh3 rfl rfl ((hH _ (by decide)).trans rfl) rfl rfl p20) ?_
  refine de_pure rfl rfl rfl rfl (fun H hH => yv_ldAR rfl sh3 rfl ((hH _ (by decide)).trans rfl) rfl rfl e21) ?_
  obtain ⟨x22, e22, h1⟩ := bind_e h1
  refine eP (fun H hH => yv_callP rfl rfl (.cons rfl (.cons rfl .nil)) cal80 (CvL.refl _) (d_ref01_Add_c e22)) ?_
  refine eM ?_
  iterate 2 refine eX ?_
  iterate 2 refine eA ?_
  refine de_nil (hK _ ?_)
  refine tc tbk 4 (.mk ?_)
  refine nb tbk h1 fun x23 h1 => ?_
  refine tr tbk 1 (.mk ?_)
  cases x23
  replace h1 := cf h1
  refine tc tbk 5 (.mk ?_)
  obtain ⟨p24, h1⟩ := asrt_e h1
  refine sY (yv_ixAR rfl Tryz.underlying119 sh3 rfl rfl rfl rfl rfl p24) ?_
  obtain ⟨x25, e25, h1⟩ := bnd_e h1
  refine rsstore rfl rfl (yl_ob (ob' := (⟨119, 11, true, true, v14, [x25.map int]⟩ : AObj)) (yl_stAR rfl sh3 rfl rfl rfl rfl rfl rfl e19 e25) rfl) ?_
  refine tr tbk 4 (.mk ?_)
  refine ni tbk h1 fun x26 h1 => ?_
  refine tr tbk 2 (.mk ?_)
  exact bk (x26, x25) () h1 leA
  replace h1 := ct h1
  refine tc tbk 5 (.mk ?_)
  refine sS ⟨32, 10, true, true, v7, [(GState.av a1)]⟩ sh32 ?_
  refine tr tbk 2 (.mk ?_)
  obtain ⟨c27, hX, hj⟩ := esc_e h1; subst hj; replace h0 := hX.trans (sel_r h0)
  obtain rfl := nxt_e h0
  refine wR hret (rC sh32 (rT .nil)) ?_
  exact .refl _
  rintro y1_1 _ h0
  refine tc tbk 4 (.mk ?_)
  obtain ⟨j28, h1, h0⟩ := bind_e h0
  refine rse (Out := fun y H' => (∃ (a : Int × Bool × (List GEnt) × (List GPool) × (List Int) × (List GRoll) × (List Int) × (List Int)) (k : Nat × Nat × Nat × Nat × Nat × Nat), a = j28 ∧ y = .agg [int a1.Master.Entities, int a1.Master.Periods, lst 1 fI a1.Master.Weights, lst 1 (fL 1 fI) a1.Master.Methods, lst 1 (fL 1 fI) a1.Master.Costs, .sl 8 k.1 0 a1.Ents.length, lst 8 GReceipt.av a1.Receipts, lst 9 GSale.av a1.Sales, lst 6 GTransit.av a1.Transits, int a1.Done] ∧ H' = hk [(1, ⟨32, 10, true, true, v5, [(GState.av a1)]⟩), (3, ⟨32, 10, true, true, v7, [[int 0, int 0, .sc (.slice none 0 0), .sc (.slice none 0 0), .sc (.slice none 0 0), .sc (.slice none 0 0), .sc (.slice none 0 0), .sc (.slice none 0 0), .sc (.slice none 0 0), int 0]]⟩), (4, ⟨119, 11, true, true, v14, [y1_1.map int]⟩), (8, ⟨47, 8, true, true, k.1, (a1.Ents.map GEnt.av).set (Int.toNat a2) [int a.1, boo a.2.1, .sl 9 k.2.1 0 a.2.2.2.1.length, .sl 10 k.2.2.1 0 a.2.2.2.2.1.length, .sl 11 k.2.2.2.1 0 a.2.2.2.2.2.1.length, .sl 12 k.2.2.2.2.1 0 a.2.2.2.2.2.2.1.length, .sl 13 k.2.2.2.2.2 0 a.2.2.2.2.2.2.2.length, lst 8 GEnt.av a.2.2.1]⟩), (9, ⟨42, 4, true, true, k.2.1, a.2.2.2.1.map GPool.av⟩), (10, ⟨3, 1, true, true, k.2.2.1, a.2.2.2.2.1.map fI⟩), (11, ⟨54, 11, true, true, k.2.2.2.1, a.2.2.2.2.2.1.map GRoll.av⟩), (12, ⟨3, 1, true, true, k.2.2.2.2.1, a.2.2.2.2.2.2.1.map fI⟩), (13, ⟨3, 1, true, true, k.2.2.2.2.2, a.2.2.2.2.2.2.2.map fI⟩)])) rfl rfl rfl (yl_call rfl rfl (.cons rfl (.cons rfl .nil)) cal78 ?_) ?_
  refine pcw (c := _) Tryz.func78 rfl rfl ?_; intro Q hret hnorm
  refine tc tbk 2 (.mk ?_)
  refine sB 6 fun v29 => ?_
  refine sA 7 z32 fun v30 => ?_
  refine tr tbk 5 (.mk ?_)
  obtain ⟨p31, h1⟩ := asrt_e h1
  refine rse rfl rfl rfl (yl_app0T (g := GEnt.av) (m := a1.Ents) 8 rfl Tryz.underlying27 bz47 by47 rfl rfl rfl rfl (.refl _) GEnt.one p31) ?_; rintro _ _ ⟨v32, rfl, rfl⟩
  refine tr tbk 1 (.mk ?_)
  refine sS ⟨32, 10, true, true, v29, [[int a1.Master.Entities, int a1.Master.Periods, lst 1 fI a1.Master.Weights, lst 1 (fL 1 fI) a1.Master.Methods, lst 1 (fL 1 fI) a1.Master.Costs, .sl 8 v32 0 a1.Ents.length, lst 8 GReceipt.av a1.Receipts, lst 9 GSale.av a1.Sales, lst 6 GTransit.av a1.Transits, int a1.Done]]⟩ sh27 ?_
  refine tr tbk 6 (.mk ?_)
  obtain ⟨x33, e33, h1⟩ := bind_e h1
  refine sY (yv_ixO rfl Tryz.underlying27 sh47 rfl rfl rfl rfl rfl (Eq.symm rfl) (List.length_map _) e33) ?_
  refine tr tbk 3 (.mk ?_)
  refine c_drawE [0, 0, 0, 0, 8, 24, 56, 120, 0, 256, 768, 1792, 4088, 0, 8192, 24576, 57344, 131064, 262137, 524281, 1048569, 2097147, 4194299, 8388603, 16777215, 33554431, 67108863] (rl [(4, [8]), (5, [8]), (6, [8]), (9, [8]), (10, [8]), (11, [8]), (14, [8]), (15, [8]), (16, [8]), (18, [8]), (19, [8]), (21, [8]), (22, [8]), (24, [8]), (25, [8])] []) (rl [(17, []), (20, []), (23, []), (26, [])] [8]) (rl [(7, false), (12, false), (17, false), (20, false), (23, false), (26, false)] true) [0, 1, 2, 3, 4, 5, 6, 8, 9, 10, 11, 13, 14, 15, 16, 7, 12, 17, 18, 19, 20, 21, 22, 23, 24, 25, 26] mixed (by kernel_rfl) ?_; intro K hK
  iterate 4 refine eM ?_
  refine eN (hr := ix_get' e33 (GEnt.av_eq _)) ?_
  refine eF fo47_2 (hr := ix_get' e33 (GEnt.av_eq _)) ?_
  refine eL sh44 (hr := ix_get' e33 (GEnt.av_eq _)) ?_
  refine eM ?_
  refine eN (hr := ix_get' e33 (GEnt.av_eq _)) ?_
  refine eF fo47_3 (hr := ix_get' e33 (GEnt.av_eq _)) ?_
  refine eL sh23 (hr := ix_get' e33 (GEnt.av_eq _)) ?_
  refine eM ?_
  refine eN (hr := ix_get' e33 (GEnt.av_eq _)) ?_
  refine eF fo47_4 (hr := ix_get' e33 (GEnt.av_eq _)) ?_
  refine eL sh45 (hr := ix_get' e33 (GEnt.av_eq _)) ?_
  obtain ⟨p34, h1⟩ := asrt_e h1
  refine de_eff rfl rfl rfl rfl (yl_app0T (g := GPool.av) (m := x33.Pools) 9 rfl Tryz.underlying44 bz42 by42 rfl rfl rfl rfl (.refl _) (fun _ => rfl) p34) (by rintro _ _ ⟨v35, rfl, rfl⟩; exact ⟨rfl, trivial⟩) ?_; rintro _ _ ⟨v35, rfl, rfl⟩
  obtain ⟨p36, h1⟩ := asrt_e h1
  refine de_eff rfl rfl rfl rfl (yl_app0T (g := fI) (m := x33.Bal) 10 rfl Tryz.underlying23 bz3 by3 rfl rfl rfl rfl (.refl _) (fun _ => rfl) p36) (by rintro _ _ ⟨v37, rfl, rfl⟩; exact ⟨rfl, trivial⟩) ?_; rintro _ _ ⟨v37, rfl, rfl⟩
  obtain ⟨p38, h1⟩ := asrt_e h1
  refine de_eff rfl rfl rfl rfl (yl_app0T (g := GRoll.av) (m := x33.Rolls) 11 rfl Tryz.underlying45 bz54 by54 rfl rfl rfl rfl (.refl _) (fun _ => rfl) p38) (by rintro _ _ ⟨v39, rfl, rfl⟩; exact trivial) ?_; rintro _ _ ⟨v39, rfl, rfl⟩
  refine eN (hr := ix_get' e33 (GEnt.av_eq _)) ?_
  refine eF fo47_2 (hr := ix_get' e33 (GEnt.av_eq _)) ?_
  refine de_eff0 rfl rfl rfl rfl (Yield.weak (yl_ob (ob' := (⟨47, 8, true, true, v32, (a1.Ents.map GEnt.av).set (Int.toNat a2) [int x33.Now, boo x33.Closed, .sl 9 v35 0 x33.Pools.length, lst 1 fI x33.Bal, lst 11 GRoll.av x33.Rolls, lst 1 fI x33.Prices, lst 1 fI x33.Down, lst 8 GEnt.av x33.Ahead]⟩ : AObj)) (yl_store rfl sh44 rfl rfl rfl rfl rfl (ix_get' e33 (GEnt.av_eq _)) rfl rfl rfl) (ob_eq rfl)) (fun _ h => h) (fun _ _ => trivial)) (by rintro _ _ ⟨rfl, rfl⟩; exact trivial) ?_; rintro _ _ ⟨rfl, rfl⟩
  refine eN (hr := set_get e33) ?_
  refine eF fo47_3 (hr := set_get e33) ?_
  refine de_eff0 rfl rfl rfl rfl (Yield.weak (yl_ob (ob' := (⟨47, 8, true, true, v32, (a1.Ents.map GEnt.av).set (Int.toNat a2) [int x33.Now, boo x33.Closed, .sl 9 v35 0 x33.Pools.length, .sl 10 v37 0 x33.Bal.length, lst 11 GRoll.av x33.Rolls, lst 1 fI x33.Prices, lst 1 fI x33.Down, lst 8 GEnt.av x33.Ahead]⟩ : AObj)) (yl_store rfl sh23 rfl rfl rfl rfl rfl (set_get e33) rfl rfl rfl) (ob_eq set_setV)) (fun _ h => h) (fun _ _ => trivial)) (by rintro _ _ ⟨rfl, rfl⟩; exact trivial) ?_; rintro _ _ ⟨rfl, rfl⟩
  refine eN (hr := set_get e33) ?_
  refine eF fo47_4 (hr := set_get e33) ?_
  refine de_eff0 rfl rfl rfl rfl (Yield.weak (yl_ob (ob' := (⟨47, 8, true, true, v32, (a1.Ents.map GEnt.av).set (Int.toNat a2) [int x33.Now, boo x33.Closed, .sl 9 v35 0 x33.Pools.length, .sl 10 v37 0 x33.Bal.length, .sl 11 v39 0 x33.Rolls.length, lst 1 fI x33.Prices, lst 1 fI x33.Down, lst 8 GEnt.av x33.Ahead]⟩ : AObj)) (yl_store rfl sh45 rfl rfl rfl rfl rfl (set_get e33) rfl rfl rfl) (ob_eq set_setV)) (fun _ h => h) (fun _ _ => trivial)) (by rintro _ _ ⟨rfl, rfl⟩; exact trivial) ?_; rintro _ _ ⟨rfl, rfl⟩
  refine de_nil (hK _ ?_)
  refine tc tbk 1 (.mk ?_)
  refine c_drawE [0, 0, 0, 4, 12, 28, 60, 0, 128, 384, 896, 2044, 4093, 8189, 16381, 32767, 65535, 131071] (rl [(3, [8]), (4, [8]), (5, [8]), (8, [8]), (9, [8]), (10, [8]), (12, [8]), (13, [8]), (15, [8]), (16, [8])] []) (rl [(11, []), (14, []), (17, [])] [8]) (rl [(6, false), (11, false), (14, false), (17, false)] true) [0, 1, 2, 3, 4, 5, 7, 8, 9, 10, 6, 11, 12, 13, 14, 15, 16, 17] mixed (by kernel_rfl) ?_; intro K hK
  iterate 3 refine eM ?_
  refine eN (hr := set_get e33) ?_
  refine eF fo47_5 (hr := set_get e33) ?_
  refine eL sh23 (hr := set_get e33) ?_
  refine eM ?_
  refine eN (hr := set_get e33) ?_
  refine eF fo47_6 (hr := set_get e33) ?_
  refine eL sh23 (hr := set_get e33) ?_
  obtain ⟨p40, h1⟩ := asrt_e h1
  refine de_eff rfl rfl rfl rfl (yl_app0T (g := fI) (m := x33.Prices) 12 rfl Tryz.underlying23 bz3 by3 rfl rfl rfl rfl (.refl _) (fun _ => rfl) p40) (by rintro _ _ ⟨v41, rfl, rfl⟩; exact ⟨rfl, trivial⟩) ?_; rintro _ _ ⟨v41, rfl, rfl⟩
  obtain ⟨p42, h1⟩ := asrt_e h1
  refine de_eff rfl rfl rfl rfl (yl_app0T (g := fI) (m := x33.Down) 13 rfl Tryz.underlying23 bz3 by3 rfl rfl rfl rfl (.refl _) (fun _ => rfl) p42) (by rintro _ _ ⟨v43, rfl, rfl⟩; exact trivial) ?_; rintro _ _ ⟨v43, rfl, rfl⟩
  refine eN (hr := set_get e33) ?_
  refine eF fo47_5 (hr := set_get e33) ?_
  refine de_eff0 rfl rfl rfl rfl (Yield.weak (yl_ob (ob' := (⟨47, 8, true, true, v32, (a1.Ents.map GEnt.av).set (Int.toNat a2) [int x33.Now, boo x33.Closed, .sl 9 v35 0 x33.Pools.length, .sl 10 v37 0 x33.Bal.length, .sl 11 v39 0 x33.Rolls.length, .sl 12 v41 0 x33.Prices.length, lst 1 fI x33.Down, lst 8 GEnt.av x33.Ahead]⟩ : AObj)) (yl_store rfl sh23 rfl rfl rfl rfl rfl (set_get e33) rfl rfl rfl) (ob_eq set_setV)) (fun _ h => h) (fun _ _ => trivial)) (by rintro _ _ ⟨rfl, rfl⟩; exact trivial) ?_; rintro _ _ ⟨rfl, rfl⟩
  refine eN (hr := set_get e33) ?_
  refine eF fo47_6 (hr := set_get e33) ?_
  refine de_eff0 rfl rfl rfl rfl (Yield.weak (yl_ob (ob' := (⟨47, 8, true, true, v32, (a1.Ents.map GEnt.av).set (Int.toNat a2) [int x33.Now, boo x33.Closed, .sl 9 v35 0 x33.Pools.length, .sl 10 v37 0 x33.Bal.length, .sl 11 v39 0 x33.Rolls.length, .sl 12 v41 0 x33.Prices.length, .sl 13 v43 0 x33.Down.length, lst 8 GEnt.av x33.Ahead]⟩ : AObj)) (yl_store rfl sh23 rfl rfl rfl rfl rfl (set_get e33) rfl rfl rfl) (ob_eq set_setV)) (fun _ h => h) (fun _ _ => trivial)) (by rintro _ _ ⟨rfl, rfl⟩; exact trivial) ?_; rintro _ _ ⟨rfl, rfl⟩
  refine de_nil (hK _ ?_)
  refine tc tbk 3 (.mk ?_)
  refine sS ⟨32, 10, true, true, v30, [[int a1.Master.Entities, int a1.Master.Periods, lst 1 fI a1.Master.Weights, lst 1 (fL 1 fI) a1.Master.Methods, lst 1 (fL 1 fI) a1.Master.Costs, .sl 8 v32 0 a1.Ents.length, lst 8 GReceipt.av a1.Receipts, lst 9 GSale.av a1.Sales, lst 6 GTransit.av a1.Transits, int a1.Done]]⟩ sh32 ?_
  refine tr tbk 1 (.mk ?_)
  obtain rfl := nxt_e h1
  refine w_ret (hret _ _ (hk [(1, ⟨32, 10, true, true, v5, [(GState.av a1)]⟩), (3, ⟨32, 10, true, true, v7, [[int 0, int 0, .sc (.slice none 0 0), .sc (.slice none 0 0), .sc (.slice none 0 0), .sc (.slice none 0 0), .sc (.slice none 0 0), .sc (.slice none 0 0), .sc (.slice none 0 0), int 0]]⟩), (4, ⟨119, 11, true, true, v14, [y1_1.map int]⟩), (8, ⟨47, 8, true, true, v32, (a1.Ents.map GEnt.av).set (Int.toNat a2) [int x33.Now, boo x33.Closed, .sl 9 v35 0 x33.Pools.length, .sl 10 v37 0 x33.Bal.length, .sl 11 v39 0 x33.Rolls.length, .sl 12 v41 0 x33.Prices.length, .sl 13 v43 0 x33.Down.length, lst 8 GEnt.av x33.Ahead]⟩), (9, ⟨42, 4, true, true, v35, x33.Pools.map GPool.av⟩), (10, ⟨3, 1, true, true, v37, x33.Bal.map fI⟩), (11, ⟨54, 11, true, true, v39, x33.Rolls.map GRoll.av⟩), (12, ⟨3, 1, true, true, v41, x33.Prices.map fI⟩), (13, ⟨3, 1, true, true, v43, x33.Down.map fI⟩)]) (.cell rfl (.pt rfl rfl rfl) sh32 rfl .nil) (HK.le ⟨rfl, rfl, rfl, rfl, rfl, rfl, rfl, rfl, rfl, trivial⟩) ?_)
  exact ⟨(x33.Now, x33.Closed, x33.Ahead, x33.Pools, x33.Bal, x33.Rolls, x33.Prices, x33.Down), (v32, v35, v37, v39, v41, v43), rfl, rfl, rfl⟩
  rintro y _ ⟨⟨y2_2, y2_3, y2_9, y2_10, y2_11, y2_12, y2_13, y2_14⟩, ⟨w2_1, w2_4, w2_5, w2_6, w2_7, w2_8⟩, rfl, hc, rfl⟩
  replace h0 := p2_e h0
  replace h0 := p2_e h0
  replace h0 := p2_e h0
  replace h0 := p2_e h0
  replace h0 := p2_e h0
  replace h0 := p2_e h0
  replace h0 := p2_e h0
  subst hc
  obtain ⟨x44, e44, h0⟩ := bind_e h0
  refine sA 14 z32 fun v45 => ?_
  refine sS ⟨32, 10, true, true, v45, [[int a1.Master.Entities, int a1.Master.Periods, lst 1 fI a1.Master.Weights, lst 1 (fL 1 fI) a1.Master.Methods, lst 1 (fL 1 fI) a1.Master.Costs, .sl 8 w2_1 0 a1.Ents.length, lst 8 GReceipt.av a1.Receipts, lst 9 GSale.av a1.Sales, lst 6 GTransit.av a1.Transits, int a1.Done]]⟩ sh32 ?_
  refine tr tbk 2 (.mk ?_)
  refine c_drawE [0, 1, 0, 7, 15, 31, 0, 0, 128, 511, 1023] (rl [(0, [14]), (1, [14]), (3, [8]), (4, [8]), (5, [8]), (7, [4]), (9, [11])] []) (rl [(10, [])] [4, 8, 11, 14]) (rl [(10, false)] true) [0, 1, 2, 3, 4, 5, 6, 7, 8, 9, 10] mixed (by kernel_rfl) ?_; intro K hK
  refine eF fo32_1 ?_
  refine eL sh27 ?_
  refine eM ?_
  refine de_pure rfl rfl rfl rfl (fun H hH => yv_ixO rfl Tryz.underlying27 sh47 rfl rfl ((hH _ (by decide)).trans rfl) rfl rfl (Eq.symm rfl) len_ov e44) ?_
  refine eF fo47_4 (hr := set_get e44) ?_
  refine eL sh45 (hr := set_get e44) ?_
  refine eM ?_
  obtain ⟨p46, h0⟩ := asrt_e h0
  refine de_pure rfl rfl rfl rfl (fun H hH => yv_ldARw rfl sh119 rfl ((hH _ (by decide)).trans rfl) rfl rfl p46) ?_
  obtain ⟨x47, e47, h0⟩ := bind_e h0
  refine eP (fun H hH => yv_callP rfl rfl (.cons rfl .nil) cal81 (CvL.refl _) (d_ref14_Roll_c e47)) ?_
  obtain ⟨x48, e48, h0⟩ := bind_e h0
  refine de_pure rfl rfl rfl rfl (fun H hH => yv_ixO rfl Tryz.underlying45 sh54 rfl rfl ((hH _ (by decide)).trans rfl) rfl rfl (Eq.symm rfl) (List.length_map _) e48) ?_
  obtain ⟨x49, e49, h0⟩ := bnd_e h0
  have fx49 := ix_set e48 e49; have lx49 := len_setV e49 (rfl : y2_12.length = y2_12.length)
  refine de_eff0 rfl rfl rfl rfl (Yield.weak (yl_ob (ob' := (⟨54, 11, true, true, w2_6, x49.map GRoll.av⟩ : AObj)) (yl_store rfl sh54 rfl rfl rfl rfl rfl (ix_get e48) rfl rfl rfl) (ob_eq (map_setV e49))) (fun _ h => h) (fun _ _ => trivial)) (by rintro _ _ ⟨rfl, rfl⟩; exact trivial) ?_; rintro _ _ ⟨rfl, rfl⟩
  refine de_nil (hK _ ?_)
  refine tc tbk 3 (.mk ?_)
  refine sS ⟨32, 10, true, true, v7, [[int a1.Master.Entities, int a1.Master.Periods, lst 1 fI a1.Master.Weights, lst 1 (fL 1 fI) a1.Master.Methods, lst 1 (fL 1 fI) a1.Master.Costs, .sl 8 w2_1 0 a1.Ents.length, lst 8 GReceipt.av a1.Receipts, lst 9 GSale.av a1.Sales, lst 6 GTransit.av a1.Transits, int a1.Done]]⟩ sh32 ?_
  refine tr tbk 2 (.mk ?_)
  obtain rfl := nxt_e h0
  refine wR hret (rC sh32 (rT .nil)) ?_
  exact CvL.tup (.cons (CvL.agg (.cons (.refl _) (.cons (.refl _) (.cons (.refl _) (.cons (.refl _) (.cons (.refl _) (.cons (cv_ov rfl rfl rfl rfl rfl (Eq.symm rfl) e44 (cvl_to (.cons (.refl _) (.cons (.refl _) (.cons (cv_lst rfl rfl rfl rfl rfl (Eq.symm rfl)) (.cons (cv_lst rfl rfl rfl rfl rfl (Eq.symm rfl)) (.cons (cv_lst rfl rfl rfl rfl rfl (Eq.symm lx49)) (.cons (cv_lst rfl rfl rfl rfl rfl (Eq.symm rfl)) (.cons (cv_lst rfl rfl rfl rfl rfl (Eq.symm rfl)) (.cons (.refl _) .nil)))))))) (GEnt.av_eq _))) (.cons (.refl _) (.cons (.refl _) (.cons (.refl _) (.cons (.refl _) .nil))))))))))) (.cons (.refl _) .nil))
  replace h0 := ct h0
  refine tc tbk 4 (.mk ?_)
  refine sS ⟨32, 10, true, true, v7, [(GState.av a1)]⟩ sh32 ?_
  refine tr tbk 2 (.mk ?_)
  obtain rfl := nxt_e h0
  refine wR hret (rC sh32 (rT .nil)) ?_
  exact .refl _
def d_ref15_Do (n : Nat) (a1 : GState) (a2 : GOp) : Option (GState × Int) :=
bnd (decide (a2.Kind ≠ 1)) fun x6 =>
cond x6 (some ((a1 : GState), (1 : Int))) ((d_ref14_Ready a1 a2.E a2.Item).bind fun x7 =>
bnd (decide (x7 ≠ 0)) fun x8 =>
cond x8 (some ((a1 : GState), (x7 : Int))) (bnd (decide ((a1.Receipts.length : Int) ≥ 40)) fun x9 =>
cond x9 (some ((a1 : GState), (6 : Int))) ((d_ref14_Bring n a1 a2.E a2.Item a2.Loc (⟨a2.Qty, a2.Amount, 0⟩ : GLayer)).bind fun x10 =>
bnd (decide (x10.2.2.2 ≠ 0)) fun x12 =>
cond x12 (some ((a1 : GState), (x10.2.2.2 : Int))) (bnd (w64 (0 - a2.Amount)) fun x13 =>
(d_ref14_Post n x10.1 a2.E ([(⟨0, x10.2.1⟩ : GLine), (⟨6, x10.2.2.1⟩ : GLine), (⟨1, x13⟩ : GLine)] : List GLine)).bind fun x14 =>
bnd (decide (x14.2 ≠ 0)) fun x15 =>
cond x15 (some ((a1 : GState), (x14.2 : Int))) ((d_ref14_Turn n x14.1 a2.E a2.Item (⟨0, x10.2.1, 0, 0, 0, 0, 0, 0, 0, 0, 0⟩ : GRoll)).bind fun x16 =>
bnd (decide (x16.2 ≠ 0)) fun x17 =>
cond x17 (some ((a1 : GState), (x16.2 : Int))) (asrt (x16.1.Receipts.length ≤ 68719476736) <|
bnd (x16.1.Receipts ++ ([(⟨a2.E, a2.Item, a2.Loc, a2.Qty, a2.Amount, a2.Qty, a2.Amount, 0⟩ : GReceipt)] : List GReceipt)) fun x20 =>
asrt (x20.length ≤ 68719476736) <|
some (((⟨x16.1.Master, x16.1.Ents, x20, x16.1.Sales, x16.1.Transits, x16.1.Done⟩ : GState) : GState), (0 : Int))))))))
theorem d_ref15_Do_c {n : Nat} {a1 : GState} {a2 : GOp} {r : GState × Int} (h0 : d_ref15_Do n a1 a2 = some r) : PP Tryz.prog 16 [.agg (GState.av a1), .agg (GOp.av a2)] (fun y => y = .tup [.agg (GState.av r.1), int r.2]) := by
  unfold d_ref15_Do at h0
  refine pp_of_pc (R0 := fun y H => Cv (frzH H) y (.tup [.agg (GState.av r.1), int r.2])) ?_ (fun y H hc => ⟨_, rfl, .tup (pvl2 ((fun (a : GState) => PV.agg (GState.pvc a)) (r.1)) (pvI (r.2))), hc⟩)
  refine pcw (c := _) Tryz.func16 rfl rfl ?_; intro Q hret hnorm
  refine tc tbk 2 (.mk ?_)
  refine sB 1 fun v3 => ?_
  refine sB 2 fun v4 => ?_
  refine sA 3 z32 fun v5 => ?_
  refine tr tbk 7 (.mk ?_)
  refine nb tbk h0 fun x6 h0 => ?_
  refine tr tbk 1 (.mk ?_)
  cases x6
  replace h0 := cf h0
  refine tc tbk 10 (.mk ?_)
  obtain ⟨x7, e7, h0⟩ := bind_e h0
  refine sC cal36 (d_ref14_Ready_c e7) ?_
  refine tr tbk 5 (.mk ?_)
  refine nb tbk h0 fun x8 h0 => ?_
  refine tr tbk 1 (.mk ?_)
  cases x8
  replace h0 := cf h0
  refine tc tbk 7 (.mk ?_)
  refine sY (yv_len_sl rfl Tryz.underlying28 rfl (lst_len _)) ?_
  refine nb tbk h0 fun x9 h0 => ?_
  refine tr tbk 1 (.mk ?_)
  cases x9
  replace h0 := cf h0
  refine tc tbk 16 (.mk ?_)
  obtain ⟨x10, e10, h0⟩ := bind_e h0
  refine sC cal37 (d_ref14_Bring_c e10) ?_
  refine tr tbk 5 (.mk ?_)
  refine sA 4 z32 fun v11 => ?_
  refine sS ⟨32, 10, true, true, v11, [(GState.av x10.1)]⟩ sh32 ?_
  refine tr tbk 8 (.mk ?_)
  refine nb tbk h0 fun x12 h0 => ?_
  refine tr tbk 1 (.mk ?_)
  cases x12
  replace h0 := cf h0
  refine tc tbk 13 (.mk ?_)
  refine ni tbk h0 fun x13 h0 => ?_
  refine tr tbk 1 (.mk ?_)
  refine sY (yv_to (y := lst 2 GLine.av ([(⟨0, x10.2.1⟩ : GLine), (⟨6, x10.2.2.1⟩ : GLine), (⟨1, x13⟩ : GLine)] : List GLine)) (yv_buildSlice (ps := [(0, _), (1, _), (2, _)]) (rows := [[int 0, int x10.2.1], [int 6, int x10.2.2.1], [int 1, int x13]]) rfl Tryz.underlying82 bz81 (.cons rfl (.cons rfl (.cons rfl .nil))) (by kernel_rfl) rfl rfl rfl) rfl) ?_
  obtain ⟨x14, e14, h0⟩ := bind_e h0
  refine sC cal38 (d_ref14_Post_c e14) ?_
  refine tr tbk 3 (.mk ?_)
  refine sS ⟨32, 10, true, true, v11, [(GState.av x14.1)]⟩ sh32 ?_
  refine tr tbk 6 (.mk ?_)
  refine nb tbk h0 fun x15 h0 => ?_
  refine tr tbk 1 (.mk ?_)
  cases x15
  replace h0 := cf h0
  refine tc tbk 10 (.mk ?_)
  refine sY (yv_build (cs := [int 0, int x10.2.1, int 0, int 0, int 0, int 0, int 0, int 0, int 0, int 0, int 0]) (ps := [(1, _)]) rfl pl54 z54 rfl (.cons rfl .nil) (by kernel_rfl)) ?_
  obtain ⟨x16, e16, h0⟩ := bind_e h0
  refine sC cal39 (d_ref14_Turn_c e16) ?_
  refine tr tbk 3 (.mk ?_)
  refine sS ⟨32, 10, true, true, v11, [(GState.av x16.1)]⟩ sh32 ?_
  refine tr tbk 6 (.mk ?_)
  refine nb tbk h0 fun x17 h0 => ?_
  refine tr tbk 1 (.mk ?_)
  cases x17
  replace h0 := cf h0
  refine tc tbk 3 (.mk ?_)
  refine c_drawE [0, 1, 3, 0, 8, 0, 32, 0, 128, 0, 512, 0, 2048, 0, 8192, 0, 32768, 131064, 262136, 524287, 1048575, 2097151] (rl [(0, [4]), (1, [4]), (3, [2]), (4, [2]), (5, [2]), (6, [2]), (7, [2]), (8, [2]), (9, [2]), (10, [2]), (11, [2]), (12, [2]), (13, [2]), (14, [2]), (15, [2]), (16, [2]), (20, [4])] []) (rl [(2, [2]), (19, []), (21, [])] [2, 4]) (rl [(2, false), (19, false), (21, false)] true) [0, 1, 3, 4, 5, 6, 7, 8, 9, 10, 11, 12, 13, 14, 15, 16, 17, 18, 2, 19, 20, 21] mixed (by kernel_rfl) ?_; intro K hK
  refine eF fo32_2 ?_
  refine eL sh28 ?_
  refine eF fo38_1 ?_
  refine eL sh3 ?_
  refine eF fo38_2 ?_
  refine eL sh3 ?_
  refine eF fo38_3 ?_
  refine eL sh3 ?_
  refine eF fo38_5 ?_
  refine eL sh3 ?_
  refine eF fo38_6 ?_
  refine eL sh3 ?_
  refine eF fo38_5 ?_
  refine eL sh3 ?_
  refine eF fo38_6 ?_
  refine eL sh3 ?_
  refine eP (fun H hH => yv_build (cs := [int a2.E, int a2.Item, int a2.Loc, int a2.Qty, int a2.Amount, int a2.Qty, int a2.Amount, int 0]) (ps := [(0, _), (1, _), (2, _), (3, _), (4, _), (5, _), (6, _)]) rfl pl85 z85 rfl (.cons rfl (.cons rfl (.cons rfl (.cons rfl (.cons rfl (.cons rfl (.cons rfl .nil))))))) (by kernel_rfl)) ?_
  refine eP (fun H hH => yv_to (y := lst 8 GReceipt.av ([(⟨a2.E, a2.Item, a2.Loc, a2.Qty, a2.Amount, a2.Qty, a2.Amount, 0⟩ : GReceipt)] : List GReceipt)) (yv_buildSlice (ps := [(0, _)]) (rows := [[int a2.E, int a2.Item, int a2.Loc, int a2.Qty, int a2.Amount, int a2.Qty, int a2.Amount, int 0]]) rfl Tryz.underlying28 bz85 (.cons rfl .nil) (by kernel_rfl) rfl rfl rfl) rfl) ?_
  obtain ⟨p18, h0⟩ := asrt_e h0
  refine de_eff rfl rfl rfl rfl (yl_app0T (g := GReceipt.av) (m := x16.1.Receipts) 5 rfl Tryz.underlying28 bz85 by85 rfl rfl rfl rfl (.refl _) (fun _ => rfl) p18) (by rintro _ _ ⟨v19, rfl, rfl⟩; exact ⟨rfl, trivial⟩) ?_; rintro _ _ ⟨v19, rfl, rfl⟩
  obtain ⟨x20, e20, h0⟩ := bnd_e h0
  obtain ⟨p21, h0⟩ := asrt_e h0
  refine de_eff rfl rfl rfl rfl (yl_appT (g := GReceipt.av) (l := x16.1.Receipts) (m := ([(⟨a2.E, a2.Item, a2.Loc, a2.Qty, a2.Amount, a2.Qty, a2.Amount, 0⟩ : GReceipt)] : List GReceipt)) .any rfl Tryz.underlying28 bz85 by85 rfl rfl rfl rfl rfl rfl rfl rfl rfl rfl (Eq.symm rfl) (.refl _) (fun _ => rfl) e20 p21) (by rintro _ _ ⟨v22, -, rfl, rfl⟩; exact trivial) ?_; rintro _ _ ⟨v22, -, rfl, rfl⟩
  refine eF fo32_2 ?_
  refine de_eff0 rfl rfl rfl rfl (Yield.weak (yl_ob (ob' := (⟨32, 10, true, true, v11, [[int x16.1.Master.Entities, int x16.1.Master.Periods, lst 1 fI x16.1.Master.Weights, lst 1 (fL 1 fI) x16.1.Master.Methods, lst 1 (fL 1 fI) x16.1.Master.Costs, lst 8 GEnt.av x16.1.Ents, .sl 5 v22 0 x20.length, lst 9 GSale.av x16.1.Sales, lst 6 GTransit.av x16.1.Transits, int x16.1.Done]]⟩ : AObj)) (yl_store rfl sh28 rfl rfl rfl rfl rfl rfl rfl rfl rfl) rfl) (fun _ h => h) (fun _ _ => trivial)) (by rintro _ _ ⟨rfl, rfl⟩; exact trivial) ?_; rintro _ _ ⟨rfl, rfl⟩
  refine de_nil (hK _ ?_)
  refine tc tbk 3 (.mk ?_)
  refine sS ⟨32, 10, true, true, v5, [[int x16.1.Master.Entities, int x16.1.Master.Periods, lst 1 fI x16.1.Master.Weights, lst 1 (fL 1 fI) x16.1.Master.Methods, lst 1 (fL 1 fI) x16.1.Master.Costs, lst 8 GEnt.av x16.1.Ents, .sl 5 v22 0 x20.length, lst 9 GSale.av x16.1.Sales, lst 6 GTransit.av x16.1.Transits, int x16.1.Done]]⟩ sh32 ?_
  refine tr tbk 2 (.mk ?_)
  obtain rfl := nxt_e h0
  refine wR hret (rC sh32 (rT .nil)) ?_
  exact CvL.tup (.cons (CvL.agg (.cons (.refl _) (.cons (.refl _) (.cons (.refl _) (.cons (.refl _) (.cons (.refl _) (.cons (.refl _) (.cons (cv_lst rfl rfl rfl rfl rfl (Eq.symm rfl)) (.cons (.refl _) (.cons (.refl _) (.cons (.refl _) .nil))))))))))) (.cons (.refl _) .nil))
  replace h0 := ct h0
  refine tc tbk 5 (.mk ?_)
  refine sS ⟨32, 10, true, true, v5, [(GState.av a1)]⟩ sh32 ?_
  refine tr tbk 2 (.mk ?_)
  obtain rfl := nxt_e h0
  refine wR hret (rC sh32 (rT .nil)) ?_
  exact .refl _
  replace h0 := ct h0
  refine tc tbk 5 (.mk ?_)
  refine sS ⟨32, 10, true, true, v5, [(GState.av a1)]⟩ sh32 ?_
  refine tr tbk 2 (.mk ?_)
  obtain rfl := nxt_e h0
  refine wR hret (rC sh32 (rT .nil)) ?_
  exact .refl _
  replace h0 := ct h0
  refine tc tbk 5 (.mk ?_)
  refine sS ⟨32, 10, true, true, v5, [(GState.av a1)]⟩ sh32 ?_
  refine tr tbk 2 (.mk ?_)
  obtain rfl := nxt_e h0
  refine wR hret (rC sh32 (rT .nil)) ?_
  exact .refl _
  replace h0 := ct h0
  refine tc tbk 4 (.mk ?_)
  refine sS ⟨32, 10, true, true, v5, [(GState.av a1)]⟩ sh32 ?_
  refine tr tbk 2 (.mk ?_)
  obtain rfl := nxt_e h0
  refine wR hret (rC sh32 (rT .nil)) ?_
  exact .refl _
  replace h0 := ct h0
  refine tc tbk 5 (.mk ?_)
  refine sS ⟨32, 10, true, true, v5, [(GState.av a1)]⟩ sh32 ?_
  refine tr tbk 2 (.mk ?_)
  obtain rfl := nxt_e h0
  refine wR hret (rC sh32 (rT .nil)) ?_
  exact .refl _
  replace h0 := ct h0
  refine tc tbk 4 (.mk ?_)
  refine sS ⟨32, 10, true, true, v5, [(GState.av a1)]⟩ sh32 ?_
  refine tr tbk 2 (.mk ?_)
  obtain rfl := nxt_e h0
  refine wR hret (rC sh32 (rT .nil)) ?_
  exact .refl _
def d_law17_stocked (n : Nat) (a1 : Int) (a2 : Int) (a3 : Int) : Option (GState) :=
(d_law17_start n).bind fun x5 =>
(d_ref15_Do n x5 (⟨1, 0, a1, 0, 0, a2, a3, 0, []⟩ : GOp)).bind fun x6 =>
some ((x6.1 : GState))
theorem d_law17_stocked_c {n : Nat} {a1 : Int} {a2 : Int} {a3 : Int} {r : GState} (h0 : d_law17_stocked n a1 a2 a3 = some r) : PP Tryz.prog 12 [int a1, int a2, int a3] (fun y => y = .agg (GState.av r)) := by
  unfold d_law17_stocked at h0
  refine pp_of_pc (R0 := fun y H => Cv (frzH H) y (.agg (GState.av r))) ?_ (fun y H hc => ⟨_, rfl, (fun (a : GState) => PV.agg (GState.pvc a)) r, hc⟩)
  refine pcw (c := _) Tryz.func12 rfl rfl ?_; intro Q hret hnorm
  refine tc tbk 2 (.mk ?_)
  refine sA 1 z32 fun v4 => ?_
  refine tr tbk 3 (.mk ?_)
  obtain ⟨x5, e5, h0⟩ := bind_e h0
  refine sC cal31 (d_law17_start_c e5) ?_
  refine tr tbk 3 (.mk ?_)
  refine sY (yv_build (cs := [int 1, int 0, int a1, int 0, int 0, int a2, int a3, int 0, .sc (.slice none 0 0)]) (ps := [(0, _), (2, _), (5, _), (6, _)]) rfl pl38 z38 rfl (.cons rfl (.cons rfl (.cons rfl (.cons rfl .nil)))) (by kernel_rfl)) ?_
  obtain ⟨x6, e6, h0⟩ := bind_e h0
  refine sY (yv_callP rfl rfl (.cons rfl (.cons rfl .nil)) cal16 (.cons (.refl _) (.cons (CvL.agg (.cons (.refl _) (.cons (.refl _) (.cons (.refl _) (.cons (.refl _) (.cons (.refl _) (.cons (.refl _) (.cons (.refl _) (.cons (.refl _) (.cons (.nil _) .nil)))))))))) .nil)) (d_ref15_Do_c e6)) ?_
  refine tr tbk 3 (.mk ?_)
  refine sA 2 z32 fun v7 => ?_
  refine sS ⟨32, 10, true, true, v7, [(GState.av x6.1)]⟩ sh32 ?_
  refine tr tbk 5 (.mk ?_)
  refine sS ⟨32, 10, true, true, v4, [(GState.av x6.1)]⟩ sh32 ?_
  refine tr tbk 1 (.mk ?_)
  obtain rfl := nxt_e h0
  refine wR hret (rC sh32 .nil) ?_
  exact .refl _
theorem map30_c : PP Tryz.prog 30 [] (fun y => y = .mp [6, 7, 8, 9] [.agg [.fn (.func 64) [] []], .agg [.fn (.func 65) [] []], .agg [.fn (.func 66) [] []], .agg [.fn (.func 67) [] []]]) := by
  refine pp_of_pc (R0 := fun y H => Cv (frzH H) y (.mp [6, 7, 8, 9] [.agg [.fn (.func 64) [] []], .agg [.fn (.func 65) [] []], .agg [.fn (.func 66) [] []], .agg [.fn (.func 67) [] []]])) ?_ (fun y H hc => ⟨_, rfl, .mp (by intro x hx; simp only [List.mem_cons, List.not_mem_nil, or_false] at hx; rcases hx with rfl | rfl | rfl | rfl <;> exact .agg (by intro x hx; simp only [List.mem_cons, List.not_mem_nil, or_false] at hx; subst hx; exact .fn (by intro x hx; cases hx) (by intro x hx; cases hx))), hc⟩)
  refine pcw (c := _) Tryz.func30 rfl rfl ?_; intro Q hret hnorm
  refine tc tbk 6 (.mk ?_)
  refine mmk rfl rfl rfl rfl ?_; intro b0
  refine mpu rfl rfl rfl (yv_build (cs := [.fn (.func 64) [] []]) (ps := [(0, _)]) rfl pl70 z70 rfl (.cons rfl .nil) (by kernel_rfl)) ?_
  refine mins rfl rfl rfl Tryz.underlying72 Tryz.underlying3 rfl rfl rfl rfl ?_
  refine mpu rfl rfl rfl (yv_build (cs := [.fn (.func 65) [] []]) (ps := [(0, _)]) rfl pl70 z70 rfl (.cons rfl .nil) (by kernel_rfl)) ?_
  refine mins rfl rfl rfl Tryz.underlying72 Tryz.underlying3 rfl rfl rfl rfl ?_
  refine mpu rfl rfl rfl (yv_build (cs := [.fn (.func 66) [] []]) (ps := [(0, _)]) rfl pl70 z70 rfl (.cons rfl .nil) (by kernel_rfl)) ?_
  refine mins rfl rfl rfl Tryz.underlying72 Tryz.underlying3 rfl rfl rfl rfl ?_
  refine mpu rfl rfl rfl (yv_build (cs := [.fn (.func 67) [] []]) (ps := [(0, _)]) rfl pl70 z70 rfl (.cons rfl .nil) (by kernel_rfl)) ?_
  refine mins rfl rfl rfl Tryz.underlying72 Tryz.underlying3 rfl rfl rfl rfl ?_
  refine mend 1 rfl ?_
  refine tr tbk 3 (.mk ?_)
  refine wR hret (rT .nil) ?_
  exact .refl _
def d_stock_is (a1 : GState) (a2 : Int) (a3 : Int) : Option (Bool) :=
(show Option (Bool) from
bnd (decide (a2 < 0)) fun x6 =>
cond x6 (some (true : Bool)) (bnd (decide (a2 ≥ (a1.Ents.length : Int))) fun x7 =>
cond x7 (some (true : Bool)) (bnd (decide (a3 < 0)) fun x8 =>
cond x8 (some (true : Bool)) (bnd (decide (a3 ≥ (a1.Master.Weights.length : Int))) fun x9 =>
some (x9 : Bool))))).bind <| fun y0_1 =>
cond y0_1 (some ((false : Bool))) ((ix a1.Ents a2).bind fun x10 =>
(show Option (Bool) from
bnd (w64 ((a1.Master.Weights.length : Int) * 2)) fun x13 =>
bnd (decide ((x10.Pools.length : Int) ≥ x13)) fun x14 =>
cond x14 (bnd (decide ((x10.Rolls.length : Int) ≥ (a1.Master.Weights.length : Int))) fun x15 =>
cond x15 (bnd (decide (a2 < (a1.Master.Methods.length : Int))) fun x16 =>
cond x16 (bnd (decide (a2 < (a1.Master.Costs.length : Int))) fun x17 =>
cond x17 ((ix a1.Master.Methods a2).bind fun x18 =>
bnd (decide ((x18.length : Int) ≥ (a1.Master.Weights.length : Int))) fun x19 =>
cond x19 ((ix a1.Master.Costs a2).bind fun x20 =>
bnd (decide ((x20.length : Int) ≥ (a1.Master.Weights.length : Int))) fun x21 =>
some (x21 : Bool)) (some (false : Bool))) (some (false : Bool))) (some (false : Bool))) (some (false : Bool))) (some (false : Bool))).bind <| fun y1_1 =>
some ((y1_1 : Bool)))
theorem d_stock_is_c {a1 : GState} {a2 : Int} {a3 : Int} {r : Bool} (h0 : d_stock_is a1 a2 a3 = some r) : PP Tryz.prog 52 [.agg (GState.av a1), int a2, int a3] (fun y => y = boo r) := by
  unfold d_stock_is at h0
  refine pp_of_pc (R0 := fun y H => Cv (frzH H) y (boo r)) ?_ (fun y H hc => ⟨_, rfl, pvB r, hc⟩)
  refine pcw (c := _) Tryz.func52 rfl rfl ?_; intro Q hret hnorm
  refine tc tbk 2 (.mk ?_)
  refine sB 1 fun v4 => ?_
  refine tr tbk 4 (.mk ?_)
  refine jn h0 [1, 3, 6] [1] (fun (a : Bool) (k : Unit) => [(29, boo a)]) (fun a k => []) ⟨fun j5 h1 => ?_, ?_⟩
  refine tc tbk 2 (.mk ?_)
  refine nb tbk h1 fun x6 h1 => ?_
  refine tr tbk 1 (.mk ?_)
  cases x6
  replace h1 := cf h1
  refine tr tbk 3 (.mk ?_)
  refine sY (yv_len_sl rfl Tryz.underlying27 rfl (lst_len _)) ?_
  refine nb tbk h1 fun x7 h1 => ?_
  refine tr tbk 2 (.mk ?_)
  cases x7
  replace h1 := cf h1
  refine tr tbk 1 (.mk ?_)
  refine nb tbk h1 fun x8 h1 => ?_
  refine tr tbk 2 (.mk ?_)
  cases x8
  replace h1 := cf h1
  refine tr tbk 4 (.mk ?_)
  refine sY (yv_len_sl rfl Tryz.underlying23 rfl (lst_len _)) ?_
  refine nb tbk h1 fun x9 h1 => ?_
  refine tr tbk 2 (.mk ?_)
  exact lf h1 () leA
  replace h1 := ct h1
  refine tr tbk 8 (.mk ?_)
  exact lf h1 () leA
  replace h1 := ct h1
  refine tr tbk 12 (.mk ?_)
  exact lf h1 () leA
  replace h1 := ct h1
  refine tr tbk 19 (.mk ?_)
  exact lf h1 () leA
  rintro y0_1 _ h0
  cases y0_1
  replace h0 := cf h0
  refine tc tbk 3 (.mk ?_)
  refine c_drawE [0, 1, 0, 7, 15, 0, 32, 96, 224, 0, 543, 2047] (rl [(0, [1]), (1, [1]), (5, [1]), (6, [1]), (7, [1])] []) (fun i => [1]) (rl [(9, false), (10, false)] true) [0, 1, 2, 3, 4, 5, 6, 7, 8, 9, 10, 11] mixed (by kernel_rfl) ?_; intro K hK
  refine eF fo32_1 ?_
  refine eL sh27 ?_
  refine eM ?_
  obtain ⟨x10, e10, h0⟩ := bind_e h0
  refine eP (fun H hH => yv_to (y := .pp [int x10.Now, boo x10.Closed, lst 4 GPool.av x10.Pools, lst 1 fI x10.Bal, lst 11 GRoll.av x10.Rolls, lst 1 fI x10.Prices, lst 1 fI x10.Down, lst 8 GEnt.av x10.Ahead]) (yv_ixT rfl Tryz.underlying27 sh47 rfl rfl e10) (congrArg AV.pp (GEnt.av_eq x10))) ?_
  refine eP (fun H hH => yv_load rfl sh47 rfl (.pp _) rfl) ?_
  refine eF fo32_0 ?_
  refine eF fo26_2 ?_
  refine eL sh23 ?_
  refine eP (fun H hH => yv_len_sl rfl Tryz.underlying23 rfl (lst_len _)) ?_
  refine de_eff rfl rfl rfl rfl (yl_alloc 2 .any rfl z47 rfl) (by rintro _ _ ⟨v11, -, rfl, rfl⟩; exact ⟨rfl, trivial⟩) ?_; rintro _ _ ⟨v11, -, rfl, rfl⟩
  refine de_eff0 rfl rfl rfl rfl (Yield.weak (yl_ob (ob' := (⟨47, 8, true, true, v11, [[int x10.Now, boo x10.Closed, lst 4 GPool.av x10.Pools, lst 1 fI x10.Bal, lst 11 GRoll.av x10.Rolls, lst 1 fI x10.Prices, lst 1 fI x10.Down, lst 8 GEnt.av x10.Ahead]]⟩ : AObj)) (yl_store rfl sh47 rfl rfl rfl rfl rfl rfl rfl rfl rfl) rfl) (fun _ h => h) (fun _ _ => trivial)) (by rintro _ _ ⟨rfl, rfl⟩; exact ⟨rfl, trivial⟩) ?_; rintro _ _ ⟨rfl, rfl⟩
  refine eA ?_
  refine de_nil (hK _ ?_)
  refine tc tbk 1 (.mk ?_)
  refine jn h0 [] [] (fun (a : Bool) (k : Unit) => [(6, boo a)]) (fun a k => []) ⟨fun j12 h1 => ?_, ?_⟩
  refine tc tbk 3 (.mk ?_)
  refine sY (yv_len_sl rfl Tryz.underlying44 rfl (lst_len _)) ?_
  refine tr tbk 1 (.mk ?_)
  refine ni tbk h1 fun x13 h1 => ?_
  refine nb tbk h1 fun x14 h1 => ?_
  refine tr tbk 1 (.mk ?_)
  cases x14
  replace h1 := cf h1
  refine tr tbk 46 (.mk ?_)
  exact lf h1 () leA
  replace h1 := ct h1
  refine tr tbk 2 (.mk ?_)
  refine sY (yv_len_sl rfl Tryz.underlying45 rfl (lst_len _)) ?_
  refine tr tbk 1 (.mk ?_)
  refine nb tbk h1 fun x15 h1 => ?_
  refine tr tbk 2 (.mk ?_)
  cases x15
  replace h1 := cf h1
  refine tr tbk 39 (.mk ?_)
  exact lf h1 () leA
  replace h1 := ct h1
  refine tr tbk 4 (.mk ?_)
  refine sY (yv_len_sl rfl Tryz.underlying24 rfl (lst_len _)) ?_
  refine nb tbk h1 fun x16 h1 => ?_
  refine tr tbk 2 (.mk ?_)
  cases x16
  replace h1 := cf h1
  refine tr tbk 31 (.mk ?_)
  exact lf h1 () leA
  replace h1 := ct h1
  refine tr tbk 4 (.mk ?_)
  refine sY (yv_len_sl rfl Tryz.underlying24 rfl (lst_len _)) ?_
  refine nb tbk h1 fun x17 h1 => ?_
  refine tr tbk 2 (.mk ?_)
  cases x17
  replace h1 := cf h1
  refine tr tbk 23 (.mk ?_)
  exact lf h1 () leA
  replace h1 := ct h1
  refine tr tbk 4 (.mk ?_)
  obtain ⟨x18, e18, h1⟩ := bind_e h1
  refine sY (yv_ixT rfl Tryz.underlying24 sh23 rfl rfl e18) ?_
  refine tr tbk 1 (.mk ?_)
  refine sY (yv_len_sl rfl Tryz.underlying23 rfl (lst_len _)) ?_
  refine tr tbk 1 (.mk ?_)
  refine nb tbk h1 fun x19 h1 => ?_
  refine tr tbk 2 (.mk ?_)
  cases x19
  replace h1 := cf h1
  refine tr tbk 12 (.mk ?_)
  exact lf h1 () leA
  replace h1 := ct h1
  refine tr tbk 4 (.mk ?_)
  obtain ⟨x20, e20, h1⟩ := bind_e h1
  refine sY (yv_ixT rfl Tryz.underlying24 sh23 rfl rfl e20) ?_
  refine tr tbk 1 (.mk ?_)
  refine sY (yv_len_sl rfl Tryz.underlying23 rfl (lst_len _)) ?_
  refine tr tbk 1 (.mk ?_)
  refine nb tbk h1 fun x21 h1 => ?_
  refine tr tbk 3 (.mk ?_)
  exact lf h1 () leA
  rintro y1_1 _ h0
  obtain rfl := nxt_e h0
  refine wR hret (rT .nil) ?_
  exact .refl _
  replace h0 := ct h0
  refine tc tbk 5 (.mk ?_)
  obtain rfl := nxt_e h0
  refine wR hret (rT .nil) ?_
  exact .refl _
def d_stock_Ready (a1 : GState) (a2 : Int) (a3 : Int) : Option (Int) :=
(d_stock_is a1 a2 a3).bind fun x5 =>
bnd (!x5) fun x6 =>
cond x6 (some ((4 : Int))) ((ix a1.Ents a2).bind fun x7 =>
bnd x7.Closed fun x8 =>
cond x8 (some ((7 : Int))) (some ((0 : Int))))
theorem d_stock_Ready_c {a1 : GState} {a2 : Int} {a3 : Int} {r : Int} (h0 : d_stock_Ready a1 a2 a3 = some r) : PP Tryz.prog 26 [.agg (GState.av a1), int a2, int a3] (fun y => y = int r) := by
  unfold d_stock_Ready at h0
  refine pp_of_pc (R0 := fun y H => Cv (frzH H) y (int r)) ?_ (fun y H hc => ⟨_, rfl, pvI r, hc⟩)
  refine pcw (c := _) Tryz.func26 rfl rfl ?_; intro Q hret hnorm
  refine tc tbk 2 (.mk ?_)
  refine sB 1 fun v4 => ?_
  refine tr tbk 9 (.mk ?_)
  obtain ⟨x5, e5, h0⟩ := bind_e h0
  refine sC cal52 (d_stock_is_c e5) ?_
  refine nb tbk h0 fun x6 h0 => ?_
  refine tr tbk 2 (.mk ?_)
  cases x6
  replace h0 := cf h0
  refine tc tbk 6 (.mk ?_)
  obtain ⟨x7, e7, h0⟩ := bind_e h0
  refine sY (yv_to (y := .pp [int x7.Now, boo x7.Closed, lst 4 GPool.av x7.Pools, lst 1 fI x7.Bal, lst 11 GRoll.av x7.Rolls, lst 1 fI x7.Prices, lst 1 fI x7.Down, lst 8 GEnt.av x7.Ahead]) (yv_ixT rfl Tryz.underlying27 sh47 rfl rfl e7) (congrArg AV.pp (GEnt.av_eq x7))) ?_
  refine tr tbk 4 (.mk ?_)
  obtain ⟨x8, e8, h0⟩ := bnd_e h0
  refine c_as (t := 13) (boo x8) rfl (congrArg boo e8) ?_
  refine c_as (t := 19) (boo x8) rfl (congrArg boo e8) ?_
  cases x8
  replace h0 := cf h0
  refine tc tbk 7 (.mk ?_)
  obtain rfl := nxt_e h0
  refine wR hret (rT .nil) ?_
  exact .refl _
  replace h0 := ct h0
  refine tc tbk 5 (.mk ?_)
  obtain rfl := nxt_e h0
  refine wR hret (rT .nil) ?_
  exact .refl _
  replace h0 := ct h0
  refine tc tbk 5 (.mk ?_)
  obtain rfl := nxt_e h0
  refine wR hret (rT .nil) ?_
  exact .refl _
def d_stock_in (a1 : Int) (a2 : Int) (a3 : Int) : Option (Bool) :=
(show Option (Bool) from
bnd (decide (a1 ≥ a2)) fun x5 =>
cond x5 (bnd (decide (a1 ≤ a3)) fun x6 =>
some (x6 : Bool)) (some (false : Bool))).bind <| fun y0_1 =>
some ((y0_1 : Bool))
theorem d_stock_in_c {a1 : Int} {a2 : Int} {a3 : Int} {r : Bool} (h0 : d_stock_in a1 a2 a3 = some r) : PP Tryz.prog 94 [int a1, int a2, int a3] (fun y => y = boo r) := by
  unfold d_stock_in at h0
  refine pp_of_pc (R0 := fun y H => Cv (frzH H) y (boo r)) ?_ (fun y H hc => ⟨_, rfl, pvB r, hc⟩)
  refine pcw (c := _) Tryz.func94 rfl rfl ?_; intro Q hret hnorm
  refine tc tbk 5 (.mk ?_)
  refine jn h0 [] [] (fun (a : Bool) (k : Unit) => [(6, boo a)]) (fun a k => []) ⟨fun j4 h1 => ?_, ?_⟩
  refine tc tbk 3 (.mk ?_)
  refine nb tbk h1 fun x5 h1 => ?_
  refine tr tbk 1 (.mk ?_)
  cases x5
  replace h1 := cf h1
  refine tr tbk 6 (.mk ?_)
  exact lf h1 () leA
  replace h1 := ct h1
  refine tr tbk 2 (.mk ?_)
  refine nb tbk h1 fun x6 h1 => ?_
  refine tr tbk 3 (.mk ?_)
  exact lf h1 () leA
  rintro y0_1 _ h0
  obtain rfl := nxt_e h0
  refine wR hret (rT .nil) ?_
  exact .refl _
def d_stock_place (a1 : GState) (a2 : Int) (a3 : Int) (a4 : Int) : Option (Int) :=
(show Option (Bool) from
(d_stock_is a1 a2 a3).bind fun x7 =>
bnd (!x7) fun x8 =>
cond x8 (some (true : Bool)) ((d_stock_in a4 0 1).bind fun x9 =>
bnd (!x9) fun x10 =>
some (x10 : Bool))).bind <| fun y0_1 =>
cond y0_1 (some (((-1) : Int))) (bnd (w64 (a3 * 2)) fun x11 =>
bnd (w64 (x11 + a4)) fun x12 =>
some ((x12 : Int)))
theorem d_stock_place_c {a1 : GState} {a2 : Int} {a3 : Int} {a4 : Int} {r : Int} (h0 : d_stock_place a1 a2 a3 a4 = some r) : PP Tryz.prog 46 [.agg (GState.av a1), int a2, int a3, int a4] (fun y => y = int r) := by
  unfold d_stock_place at h0
  refine pp_of_pc (R0 := fun y H => Cv (frzH H) y (int r)) ?_ (fun y H hc => ⟨_, rfl, pvI r, hc⟩)
  refine pcw (c := _) Tryz.func46 rfl rfl ?_; intro Q hret hnorm
  refine tc tbk 2 (.mk ?_)
  refine sB 1 fun v5 => ?_
  refine tr tbk 4 (.mk ?_)
  refine jn h0 [2, 3, 8] [] (fun (a : Bool) (k : Unit) => [(18, boo a)]) (fun a k => []) ⟨fun j6 h1 => ?_, ?_⟩
  refine tc tbk 4 (.mk ?_)
  obtain ⟨x7, e7, h1⟩ := bind_e h1
  refine sC cal52 (d_stock_is_c e7) ?_
  refine nb tbk h1 fun x8 h1 => ?_
  refine tr tbk 1 (.mk ?_)
  cases x8
  replace h1 := cf h1
  refine tr tbk 1 (.mk ?_)
  obtain ⟨x9, e9, h1⟩ := bind_e h1
  refine sC cal94 (d_stock_in_c e9) ?_
  refine nb tbk h1 fun x10 h1 => ?_
  refine tr tbk 2 (.mk ?_)
  exact lf h1 () leA
  replace h1 := ct h1
  refine tr tbk 5 (.mk ?_)
  exact lf h1 () leA
  rintro y0_1 _ h0
  cases y0_1
  replace h0 := cf h0
  refine tc tbk 5 (.mk ?_)
  refine ni tbk h0 fun x11 h0 => ?_
  refine tr tbk 1 (.mk ?_)
  refine ni tbk h0 fun x12 h0 => ?_
  refine tr tbk 2 (.mk ?_)
  obtain rfl := nxt_e h0
  refine wR hret (rT .nil) ?_
  exact .refl _
  replace h0 := ct h0
  refine tc tbk 5 (.mk ?_)
  obtain rfl := nxt_e h0
  refine wR hret (rT .nil) ?_
  exact .refl _
def d_pool_with (a1 : GPool) (a2 : List GLayer) : Option (GPool) :=
some (((⟨a2, a1.Pend⟩ : GPool) : GPool))
theorem d_pool_with_c {a1 : GPool} {a2 : List GLayer} {r : GPool} (h0 : d_pool_with a1 a2 = some r) : PP Tryz.prog 146 [.agg (GPool.av a1), lst 3 GLayer.av a2] (fun y => y = .agg (GPool.av r)) := by
  unfold d_pool_with at h0
  refine pp_of_pc (R0 := fun y H => Cv (frzH H) y (.agg (GPool.av r))) ?_ (fun y H hc => ⟨_, rfl, (fun (a : GPool) => PV.agg (GPool.pvc a)) r, hc⟩)
  refine pcw (c := _) Tryz.func146 rfl rfl ?_; intro Q hret hnorm
  refine tc tbk 2 (.mk ?_)
  refine sB 1 fun v3 => ?_
  refine sA 2 z42 fun v4 => ?_
  refine tr tbk 5 (.mk ?_)
  refine sS ⟨42, 4, true, true, v3, [[lst 3 GLayer.av a2, int a1.Pend.a0, int a1.Pend.a1, int a1.Pend.a2]]⟩ sh39 ?_
  refine tr tbk 4 (.mk ?_)
  refine sS ⟨42, 4, true, true, v4, [[lst 3 GLayer.av a2, int a1.Pend.a0, int a1.Pend.a1, int a1.Pend.a2]]⟩ sh42 ?_
  refine tr tbk 1 (.mk ?_)
  obtain rfl := nxt_e h0
  refine wR hret (rC sh42 .nil) ?_
  exact .refl _
def d_pool_own (a1 : GPool) : Option (GPool) :=
asrt (a1.Layers.length ≤ 68719476736) <|
(show Option ((Unit)) from
some ()).bind <| fun _ =>
some ((a1 : GPool))
theorem d_pool_own_c {a1 : GPool} {r : GPool} (h0 : d_pool_own a1 = some r) : PP Tryz.prog 96 [.agg (GPool.av a1)] (fun y => y = .agg (GPool.av r)) := by
  unfold d_pool_own at h0
  refine pp_of_pc (R0 := fun y H => Cv (frzH H) y (.agg (GPool.av r))) ?_ (fun y H hc => ⟨_, rfl, (fun (a : GPool) => PV.agg (GPool.pvc a)) r, hc⟩)
  refine pcw (c := _) Tryz.func96 rfl rfl ?_; intro Q hret hnorm
  refine tc tbk 2 (.mk ?_)
  refine sB 1 fun v2 => ?_
  refine sA 2 z42 fun v3 => ?_
  refine tr tbk 2 (.mk ?_)
  refine c_drawE [0, 0, 2, 6, 15, 31] (rl [(0, [1]), (1, [1]), (2, [1])] []) (rl [(4, []), (5, [])] [1]) (rl [(3, false), (4, false), (5, false)] true) [0, 1, 2, 3, 4, 5] mixed (by kernel_rfl) ?_; intro K hK
  refine eL sh42 ?_
  refine eF fo42_0 ?_
  refine eL sh39 ?_
  obtain ⟨p4, h0⟩ := asrt_e h0
  refine de_eff rfl rfl rfl rfl (yl_call rfl rfl (.cons rfl .nil) cal59 (pc_cv (clone59_c (id := 3) (l := a1.Layers) rfl p4) (.cons (.refl _) .nil))) (by rintro _ _ ⟨v5, rfl, rfl⟩; exact ⟨rfl, trivial⟩) ?_; rintro _ _ ⟨v5, rfl, rfl⟩
  obtain ⟨j6, h1, h0⟩ := bind_e h0
  refine de_eff (Out := fun y H' => (∃ (a : Unit) (k : Unit), a = j6 ∧ y = .agg [.sl 3 v5 0 a1.Layers.length, int a1.Pend.a0, int a1.Pend.a1, int a1.Pend.a2] ∧ H' = hk [(1, ⟨42, 4, true, true, v2, [[lst 3 GLayer.av a1.Layers, int a1.Pend.a0, int a1.Pend.a1, int a1.Pend.a2]]⟩), (2, ⟨42, 4, true, true, v3, [[.sc (.slice none 0 0), int 0, int 0, int 0]]⟩), (3, ⟨50, 3, true, true, v5, a1.Layers.map GLayer.av⟩)])) rfl rfl rfl rfl (yl_call rfl rfl (.cons rfl (.cons rfl .nil)) cal146 ?_) (by rintro y _ ⟨_, _, rfl, hc, rfl⟩ <;> exact trivial) ?_
  refine pcw (c := _) Tryz.func146 rfl rfl ?_; intro Q hret hnorm
  refine tc tbk 2 (.mk ?_)
  refine sB 4 fun v7 => ?_
  refine sA 5 z42 fun v8 => ?_
  refine tr tbk 5 (.mk ?_)
  refine sS ⟨42, 4, true, true, v7, [[.sl 3 v5 0 a1.Layers.length, int a1.Pend.a0, int a1.Pend.a1, int a1.Pend.a2]]⟩ sh39 ?_
  refine tr tbk 4 (.mk ?_)
  refine sS ⟨42, 4, true, true, v8, [[.sl 3 v5 0 a1.Layers.length, int a1.Pend.a0, int a1.Pend.a1, int a1.Pend.a2]]⟩ sh42 ?_
  refine tr tbk 1 (.mk ?_)
  obtain rfl := nxt_e h1
  refine w_ret (hret _ _ (hk [(1, ⟨42, 4, true, true, v2, [[lst 3 GLayer.av a1.Layers, int a1.Pend.a0, int a1.Pend.a1, int a1.Pend.a2]]⟩), (2, ⟨42, 4, true, true, v3, [[.sc (.slice none 0 0), int 0, int 0, int 0]]⟩), (3, ⟨50, 3, true, true, v5, a1.Layers.map GLayer.av⟩)]) (.cell rfl (.pt rfl rfl rfl) sh42 rfl .nil) (HK.le ⟨rfl, rfl, rfl, trivial⟩) ?_)
  exact ⟨(), (), rfl, rfl, rfl⟩
  rintro y _ ⟨_, _, rfl, hc, rfl⟩
  subst hc
  refine de_eff0 rfl rfl rfl rfl (Yield.weak (yl_ob (ob' := (⟨42, 4, true, true, v3, [[.sl 3 v5 0 a1.Layers.length, int a1.Pend.a0, int a1.Pend.a1, int a1.Pend.a2]]⟩ : AObj)) (yl_store rfl sh42 rfl rfl rfl rfl rfl rfl rfl rfl rfl) rfl) (fun _ h => h) (fun _ _ => trivial)) (by rintro _ _ ⟨rfl, rfl⟩; exact trivial) ?_; rintro _ _ ⟨rfl, rfl⟩
  refine de_nil (hK _ ?_)
  obtain rfl := nxt_e h0
  refine wR hret (rC sh42 .nil) ?_
  exact (CvL.agg (.cons (cv_lst rfl rfl rfl rfl rfl (Eq.symm rfl)) (.cons (.refl _) (.cons (.refl _) (.cons (.refl _) .nil)))))
def d_stdcost_rate_fits (a1 : Int) : Option (Bool) :=
(show Option (Bool) from
bnd (decide (a1 ≥ 0)) fun x3 =>
cond x3 (bnd (decide (a1 ≤ 1073741824)) fun x4 =>
some (x4 : Bool)) (some (false : Bool))).bind <| fun y0_1 =>
some ((y0_1 : Bool))
theorem d_stdcost_rate_fits_c {a1 : Int} {r : Bool} (h0 : d_stdcost_rate_fits a1 = some r) : PP Tryz.prog 175 [int a1] (fun y => y = boo r) := by
  unfold d_stdcost_rate_fits at h0
  refine pp_of_pc (R0 := fun y H => Cv (frzH H) y (boo r)) ?_ (fun y H hc => ⟨_, rfl, pvB r, hc⟩)
  refine pcw (c := _) Tryz.func175 rfl rfl ?_; intro Q hret hnorm
  refine tc tbk 5 (.mk ?_)
  refine jn h0 [] [] (fun (a : Bool) (k : Unit) => [(2, boo a)]) (fun a k => []) ⟨fun j2 h1 => ?_, ?_⟩
  refine tc tbk 2 (.mk ?_)
  refine nb tbk h1 fun x3 h1 => ?_
  refine tr tbk 1 (.mk ?_)
  cases x3
  replace h1 := cf h1
  refine tr tbk 5 (.mk ?_)
  exact lf h1 () leA
  replace h1 := ct h1
  refine tr tbk 1 (.mk ?_)
  refine nb tbk h1 fun x4 h1 => ?_
  refine tr tbk 3 (.mk ?_)
  exact lf h1 () leA
  rintro y0_1 _ h0
  obtain rfl := nxt_e h0
  refine wR hret (rT .nil) ?_
  exact .refl _
def d_fifo_has_L0 (a1 : List GLayer) : Nat → Int → Int → Option ((Unit) ⊕ (Bool))
  | 0, _, _ => none
  | n + 1, y0_1, y0_2 =>
    bnd (decide (y0_2 < (a1.length : Int))) fun x4 =>
    cond x4 ((ix a1 y0_2).bind fun x5 =>
    bnd (if 0 > x5.Qty then 0 else x5.Qty) fun x7 =>
    bnd (if y0_1 < x7 then y0_1 else x7) fun x8 =>
    bnd (w64 (y0_1 - x8)) fun x9 =>
    bnd (decide (x9 = 0)) fun x10 =>
    cond x10 (esc (some ((true : Bool)))) (bnd (w64 (y0_2 + 1)) fun x11 =>
    d_fifo_has_L0 a1 n (x9 : Int) (x11 : Int))) (brk ())
def d_fifo_has (n : Nat) (a1 : List GLayer) (a2 : Int) : Option (Bool) :=
(show Option ((Unit) ⊕ (Bool)) from
d_fifo_has_L0 a1 n (a2 : Int) (0 : Int)).bind <| sel <| fun _ =>
some ((false : Bool))
theorem d_fifo_has_c {n : Nat} {a1 : List GLayer} {a2 : Int} {r : Bool} (h0 : d_fifo_has n a1 a2 = some r) : PP Tryz.prog 269 [lst 3 GLayer.av a1, int a2] (fun y => y = boo r) := by
  unfold d_fifo_has at h0
  refine pp_of_pc (R0 := fun y H => Cv (frzH H) y (boo r)) ?_ (fun y H hc => ⟨_, rfl, pvB r, hc⟩)
  refine pcw (c := _) Tryz.func269 rfl rfl ?_; intro Q hret hnorm
  refine tc tbk 8 (.mk ?_)
  refine sY (yv_len_sl rfl Tryz.underlying39 rfl (lst_len _)) ?_
  refine tr tbk 2 (.mk ?_)
  refine jnE h0 [4] [] (fun (a : Unit) (k : Unit) => []) (fun a k => []) ⟨fun j3 h1 h0 => ?_, ?_⟩
  refine tc tbk 1 (.mk ?_)
  refine lp (fun n (a : Int × Int) => d_fifo_has_L0 a1 n a.1 a.2) ((a2 : Int), (0 : Int)) () h1 [4, 7, 8] [] (fun (a : Int × Int) (k : Unit) => [(1, int a.1), (9, int a.2)]) (fun a k => []) (fun _ => rfl) ⟨leA, ?_⟩
  rintro n ⟨y0_1, y0_2⟩ _ hm h1
  replace h1 : d_fifo_has_L0 a1 (n + 1) y0_1 y0_2 = some _ := h1
  rw [d_fifo_has_L0] at h1
  refine tc tbk 2 (.mk ?_)
  refine nb tbk h1 fun x4 h1 => ?_
  refine tr tbk 2 (.mk ?_)
  cases x4
  replace h1 := cf h1
  refine tc tbk 2 (.mk ?_)
  exact lfE h1 () leA
  replace h1 := ct h1
  refine tc tbk 6 (.mk ?_)
  obtain ⟨x5, e5, h1⟩ := bind_e h1
  refine sY (yv_ixT rfl Tryz.underlying39 sh50 rfl rfl e5) ?_
  refine tr tbk 1 (.mk ?_)
  refine sA 1 z50 fun v6 => ?_
  refine sS ⟨50, 3, true, true, v6, [[int x5.Qty, int x5.Value, int x5.Profit]]⟩ sh50 ?_
  refine tr tbk 6 (.mk ?_)
  obtain ⟨x7, e7, h1⟩ := bnd_e h1
  refine sY (yv_max rfl rfl rfl e7) ?_
  refine tr tbk 1 (.mk ?_)
  obtain ⟨x8, e8, h1⟩ := bnd_e h1
  refine sY (yv_min rfl rfl rfl e8) ?_
  refine ni tbk h1 fun x9 h1 => ?_
  refine tr tbk 5 (.mk ?_)
  refine nb tbk h1 fun x10 h1 => ?_
  refine tr tbk 1 (.mk ?_)
  cases x10
  replace h1 := cf h1
  refine tc tbk 4 (.mk ?_)
  refine ni tbk h1 fun x11 h1 => ?_
  refine tr tbk 2 (.mk ?_)
  exact bk (x9, x11) () h1 leA
  replace h1 := ct h1
  refine tc tbk 5 (.mk ?_)
  obtain ⟨c12, hX, hj⟩ := esc_e h1; subst hj; replace h0 := hX.trans (sel_r h0)
  obtain rfl := nxt_e h0
  refine wR hret (rT .nil) ?_
  exact .refl _
  rintro _ _ h0
  refine tc tbk 4 (.mk ?_)
  obtain rfl := nxt_e h0
  refine wR hret (rT .nil) ?_
  exact .refl _
def d_money_in (a1 : Int) : Option (Bool) :=
(show Option (Bool) from
bnd (decide (a1 ≥ (-288230376151711744))) fun x3 =>
cond x3 (bnd (decide (a1 ≤ 288230376151711744)) fun x4 =>
some (x4 : Bool)) (some (false : Bool))).bind <| fun y0_1 =>
some ((y0_1 : Bool))
theorem d_money_in_c {a1 : Int} {r : Bool} (h0 : d_money_in a1 = some r) : PP Tryz.prog 138 [int a1] (fun y => y = boo r) := by
  unfold d_money_in at h0
  refine pp_of_pc (R0 := fun y H => Cv (frzH H) y (boo r)) ?_ (fun y H hc => ⟨_, rfl, pvB r, hc⟩)
  refine pcw (c := _) Tryz.func138 rfl rfl ?_; intro Q hret hnorm
  refine tc tbk 5 (.mk ?_)
  refine jn h0 [] [] (fun (a : Bool) (k : Unit) => [(2, boo a)]) (fun a k => []) ⟨fun j2 h1 => ?_, ?_⟩
  refine tc tbk 2 (.mk ?_)
  refine nb tbk h1 fun x3 h1 => ?_
  refine tr tbk 1 (.mk ?_)
  cases x3
  replace h1 := cf h1
  refine tr tbk 5 (.mk ?_)
  exact lf h1 () leA
  replace h1 := ct h1
  refine tr tbk 1 (.mk ?_)
  refine nb tbk h1 fun x4 h1 => ?_
  refine tr tbk 3 (.mk ?_)
  exact lf h1 () leA
  rintro y0_1 _ h0
  obtain rfl := nxt_e h0
  refine wR hret (rT .nil) ?_
  exact .refl _
def d_money_Wide (a1 : Int) (a2 : Int) : Option (Int × Int) :=
bnd (wu64 a1) fun x3 =>
bnd (wu64 a2) fun x4 =>
bnd (x3.tmod 4294967296) fun x5 =>
bnd (x4.tmod 4294967296) fun x6 =>
bnd (wu64 (x5 * x6)) fun x7 =>
bnd (wu64 (x3.tdiv 4294967296)) fun x8 =>
bnd (x4.tmod 4294967296) fun x9 =>
bnd (wu64 (x8 * x9)) fun x10 =>
bnd (x3.tmod 4294967296) fun x11 =>
bnd (wu64 (x4.tdiv 4294967296)) fun x12 =>
bnd (wu64 (x11 * x12)) fun x13 =>
bnd (wu64 (x3.tdiv 4294967296)) fun x14 =>
bnd (wu64 (x4.tdiv 4294967296)) fun x15 =>
bnd (wu64 (x14 * x15)) fun x16 =>
bnd (wu64 (x7.tdiv 4294967296)) fun x18 =>
bnd (x10.tmod 4294967296) fun x19 =>
bnd (wu64 (x18 + x19)) fun x20 =>
bnd (x13.tmod 4294967296) fun x21 =>
bnd (wu64 (x20 + x21)) fun x22 =>
bnd (wu64 (x10.tdiv 4294967296)) fun x23 =>
bnd (wu64 (x16 + x23)) fun x24 =>
bnd (wu64 (x13.tdiv 4294967296)) fun x25 =>
bnd (wu64 (x24 + x25)) fun x26 =>
bnd (wu64 (x22.tdiv 4294967296)) fun x27 =>
bnd (wu64 (x26 + x27)) fun x28 =>
bnd (wu64 (x3 * x4)) fun x29 =>
some ((x28 : Int), (x29 : Int))
theorem d_money_Wide_c {a1 : Int} {a2 : Int} {r : Int × Int} (h0 : d_money_Wide a1 a2 = some r) : PP Tryz.prog 173 [int a1, int a2] (fun y => y = .tup [.sc (.int .u64 r.1), .sc (.int .u64 r.2)]) := by
  unfold d_money_Wide at h0
  refine pp_of_pc (R0 := fun y H => Cv (frzH H) y (.tup [.sc (.int .u64 r.1), .sc (.int .u64 r.2)])) ?_ (fun y H hc => ⟨_, rfl, .tup (pvl2 ((pvK .u64) (r.1)) ((pvK .u64) (r.2))), hc⟩)
  refine pcw (c := _) Tryz.func173 rfl rfl ?_; intro Q hret hnorm
  refine tc tbk 8 (.mk ?_)
  refine ni tbk h0 fun x3 h0 => ?_
  refine tr tbk 1 (.mk ?_)
  refine ni tbk h0 fun x4 h0 => ?_
  refine tr tbk 6 (.mk ?_)
  refine ni tbk h0 fun x5 h0 => ?_
  refine tr tbk 1 (.mk ?_)
  refine ni tbk h0 fun x6 h0 => ?_
  refine ni tbk h0 fun x7 h0 => ?_
  refine tr tbk 1 (.mk ?_)
  refine ni tbk h0 fun x8 h0 => ?_
  refine tr tbk 1 (.mk ?_)
  refine ni tbk h0 fun x9 h0 => ?_
  refine ni tbk h0 fun x10 h0 => ?_
  refine tr tbk 1 (.mk ?_)
  refine ni tbk h0 fun x11 h0 => ?_
  refine tr tbk 1 (.mk ?_)
  refine ni tbk h0 fun x12 h0 => ?_
  refine ni tbk h0 fun x13 h0 => ?_
  refine tr tbk 1 (.mk ?_)
  refine ni tbk h0 fun x14 h0 => ?_
  refine tr tbk 1 (.mk ?_)
  refine ni tbk h0 fun x15 h0 => ?_
  refine ni tbk h0 fun x16 h0 => ?_
  refine sY (yv_buildA (cs := [.sc (.int .u64 x7), .sc (.int .u64 x10), .sc (.int .u64 x13), .sc (.int .u64 x16)]) (ps := [(0, _), (1, _), (2, _), (3, _)]) rfl Tryz.underlying231 sh212 z231 rfl (.cons rfl (.cons rfl (.cons rfl (.cons rfl .nil)))) (by kernel_rfl)) ?_
  refine sA 1 z231 fun v17 => ?_
  refine sS ⟨231, 4, true, true, v17, [[.sc (.int .u64 x7), .sc (.int .u64 x10), .sc (.int .u64 x13), .sc (.int .u64 x16)]]⟩ sh231 ?_
  refine tr tbk 3 (.mk ?_)
  refine sY (yv_to (y := .pt 1 v17 0 0) (yv_indexAddrA rfl Tryz.underlying231 sh212 rfl rfl rfl rfl rfl (by decide)) rfl) ?_
  refine tr tbk 1 (.mk ?_)
  refine ni tbk h0 fun x18 h0 => ?_
  refine sY (yv_to (y := .pt 1 v17 0 1) (yv_indexAddrA rfl Tryz.underlying231 sh212 rfl rfl rfl rfl rfl (by decide)) rfl) ?_
  refine tr tbk 1 (.mk ?_)
  refine ni tbk h0 fun x19 h0 => ?_
  refine ni tbk h0 fun x20 h0 => ?_
  refine sY (yv_to (y := .pt 1 v17 0 2) (yv_indexAddrA rfl Tryz.underlying231 sh212 rfl rfl rfl rfl rfl (by decide)) rfl) ?_
  refine tr tbk 1 (.mk ?_)
  refine ni tbk h0 fun x21 h0 => ?_
  refine ni tbk h0 fun x22 h0 => ?_
  refine tr tbk 4 (.mk ?_)
  refine sY (yv_to (y := .pt 1 v17 0 3) (yv_indexAddrA rfl Tryz.underlying231 sh212 rfl rfl rfl rfl rfl (by decide)) rfl) ?_
  refine tr tbk 1 (.mk ?_)
  refine sY (yv_to (y := .pt 1 v17 0 1) (yv_indexAddrA rfl Tryz.underlying231 sh212 rfl rfl rfl rfl rfl (by decide)) rfl) ?_
  refine tr tbk 1 (.mk ?_)
  refine ni tbk h0 fun x23 h0 => ?_
  refine ni tbk h0 fun x24 h0 => ?_
  refine sY (yv_to (y := .pt 1 v17 0 2) (yv_indexAddrA rfl Tryz.underlying231 sh212 rfl rfl rfl rfl rfl (by decide)) rfl) ?_
  refine tr tbk 1 (.mk ?_)
  refine ni tbk h0 fun x25 h0 => ?_
  refine ni tbk h0 fun x26 h0 => ?_
  refine tr tbk 1 (.mk ?_)
  refine ni tbk h0 fun x27 h0 => ?_
  refine ni tbk h0 fun x28 h0 => ?_
  refine tr tbk 2 (.mk ?_)
  refine ni tbk h0 fun x29 h0 => ?_
  refine tr tbk 3 (.mk ?_)
  obtain rfl := nxt_e h0
  refine wR hret (rT (rT .nil)) ?_
  exact .refl _
def d_math_bits_Len64 (a1 : Int) : Option (Int) :=
bnd (decide (a1 ≥ 4294967296)) fun x2 =>
(show Option (Int × Int) from
cond x2 (bnd (a1.fdiv (2 ^ (min (32 : Int).toNat IntKind.u64.bits))) fun x4 =>
some ((x4 : Int), (32 : Int))) (some ((a1 : Int), (0 : Int)))).bind <| p2 fun (y0_1 : Int) (y0_2 : Int) =>
bnd (decide (y0_1 ≥ 65536)) fun x5 =>
(show Option (Int × Int) from
cond x5 (bnd (y0_1.fdiv (2 ^ (min (16 : Int).toNat IntKind.u64.bits))) fun x7 =>
bnd (w64 (y0_2 + 16)) fun x8 =>
some ((x7 : Int), (x8 : Int))) (some ((y0_1 : Int), (y0_2 : Int)))).bind <| p2 fun (y1_1 : Int) (y1_2 : Int) =>
bnd (decide (y1_1 ≥ 256)) fun x9 =>
(show Option (Int × Int) from
cond x9 (bnd (y1_1.fdiv (2 ^ (min (8 : Int).toNat IntKind.u64.bits))) fun x11 =>
bnd (w64 (y1_2 + 8)) fun x12 =>
some ((x11 : Int), (x12 : Int))) (some ((y1_1 : Int), (y1_2 : Int)))).bind <| p2 fun (y2_1 : Int) (y2_2 : Int) =>
bnd (wu8 y2_1) fun x13 =>
(ix ([0, 1, 2, 2, 3, 3, 3, 3, 4, 4, 4, 4, 4, 4, 4, 4, 5, 5, 5, 5, 5, 5, 5, 5, 5, 5, 5, 5, 5, 5, 5, 5, 6, 6, 6, 6, 6, 6, 6, 6, 6, 6, 6, 6, 6, 6, 6, 6, 6, 6, 6, 6, 6, 6, 6, 6, 6, 6, 6, 6, 6, 6, 6, 6, 7, 7, 7, 7, 7, 7, 7, 7, 7, 7, 7, 7, 7, 7, 7, 7, 7, 7, 7, 7, 7, 7, 7, 7, 7, 7, 7, 7, 7, 7, 7, 7, 7, 7, 7, 7, 7, 7, 7, 7, 7, 7, 7, 7, 7, 7, 7, 7, 7, 7, 7, 7, 7, 7, 7, 7, 7, 7, 7, 7, 7, 7, 7, 7, 8, 8, 8, 8, 8, 8, 8, 8, 8, 8, 8, 8, 8, 8, 8, 8, 8, 8, 8, 8, 8, 8, 8, 8, 8, 8, 8, 8, 8, 8, 8, 8, 8, 8, 8, 8, 8, 8, 8, 8, 8, 8, 8, 8, 8, 8, 8, 8, 8, 8, 8, 8, 8, 8, 8, 8, 8, 8, 8, 8, 8, 8, 8, 8, 8, 8, 8, 8, 8, 8, 8, 8, 8, 8, 8, 8, 8, 8, 8, 8, 8, 8, 8, 8, 8, 8, 8, 8, 8, 8, 8, 8, 8, 8, 8, 8, 8, 8, 8, 8, 8, 8, 8, 8, 8, 8, 8, 8, 8, 8, 8, 8, 8, 8, 8, 8, 8, 8, 8, 8, 8, 8, 8, 8, 8, 8, 8, 8] : List UInt8) x13).bind fun x14 =>
bnd (w64 (x14.toNat : Int)) fun x15 =>
bnd (w64 (y2_2 + x15)) fun x16 =>
some ((x16 : Int))
theorem d_math_bits_Len64_c {a1 : Int} {r : Int} (h0 : d_math_bits_Len64 a1 = some r) : PP Tryz.prog 228 [.sc (.int .u64 a1)] (fun y => y = int r) := by
  unfold d_math_bits_Len64 at h0
  refine pp_of_pc (R0 := fun y H => Cv (frzH H) y (int r)) ?_ (fun y H hc => ⟨_, rfl, pvI r, hc⟩)
  refine pcw (c := _) Tryz.func228 rfl rfl ?_; intro Q hret hnorm
  refine tc tbk 8 (.mk ?_)
  refine nb tbk h0 fun x2 h0 => ?_
  refine tr tbk 1 (.mk ?_)
  refine jn h0 [] [] (fun (a : Int × Int) (k : Unit) => [(0, .sc (.int .u64 a.1)), (2, int a.2)]) (fun a k => []) ⟨fun j3 h1 => ?_, ?_⟩
  cases x2
  replace h1 := cf h1
  refine tc tbk 2 (.mk ?_)
  exact lf h1 () leA
  replace h1 := ct h1
  refine tc tbk 4 (.mk ?_)
  refine ni tbk h1 fun x4 h1 => ?_
  refine tr tbk 5 (.mk ?_)
  exact lf h1 () leA
  rintro ⟨y0_1, y0_2⟩ _ h0
  replace h0 := p2_e h0
  refine tc tbk 4 (.mk ?_)
  refine nb tbk h0 fun x5 h0 => ?_
  refine tr tbk 1 (.mk ?_)
  refine jn h0 [] [] (fun (a : Int × Int) (k : Unit) => [(0, .sc (.int .u64 a.1)), (2, int a.2)]) (fun a k => []) ⟨fun j6 h1 => ?_, ?_⟩
  cases x5
  replace h1 := cf h1
  refine tc tbk 2 (.mk ?_)
  exact lf h1 () leA
  replace h1 := ct h1
  refine tc tbk 4 (.mk ?_)
  refine ni tbk h1 fun x7 h1 => ?_
  refine tr tbk 4 (.mk ?_)
  refine ni tbk h1 fun x8 h1 => ?_
  refine tr tbk 2 (.mk ?_)
  exact lf h1 () leA
  rintro ⟨y1_1, y1_2⟩ _ h0
  replace h0 := p2_e h0
  refine tc tbk 4 (.mk ?_)
  refine nb tbk h0 fun x9 h0 => ?_
  refine tr tbk 1 (.mk ?_)
  refine jn h0 [] [] (fun (a : Int × Int) (k : Unit) => [(0, .sc (.int .u64 a.1)), (2, int a.2)]) (fun a k => []) ⟨fun j10 h1 => ?_, ?_⟩
  cases x9
  replace h1 := cf h1
  refine tc tbk 2 (.mk ?_)
  exact lf h1 () leA
  replace h1 := ct h1
  refine tc tbk 4 (.mk ?_)
  refine ni tbk h1 fun x11 h1 => ?_
  refine tr tbk 4 (.mk ?_)
  refine ni tbk h1 fun x12 h1 => ?_
  refine tr tbk 2 (.mk ?_)
  exact lf h1 () leA
  rintro ⟨y2_1, y2_2⟩ _ h0
  replace h0 := p2_e h0
  refine tc tbk 4 (.mk ?_)
  refine ni tbk h0 fun x13 h0 => ?_
  obtain ⟨x14, e14, h0⟩ := bind_e h0
  refine sY (yv_index_str rfl Tryz.underlying9 rfl rfl (ix_e e14).1 (ix_e e14).2) ?_
  refine ni tbk h0 fun x15 h0 => ?_
  refine ni tbk h0 fun x16 h0 => ?_
  refine tr tbk 2 (.mk ?_)
  obtain rfl := nxt_e h0
  refine wR hret (rT .nil) ?_
  exact .refl _
def d_math_bits_LeadingZeros64 (a1 : Int) : Option (Int) :=
(d_math_bits_Len64 a1).bind fun x2 =>
bnd (w64 (64 - x2)) fun x3 =>
some ((x3 : Int))
theorem d_math_bits_LeadingZeros64_c {a1 : Int} {r : Int} (h0 : d_math_bits_LeadingZeros64 a1 = some r) : PP Tryz.prog 202 [.sc (.int .u64 a1)] (fun y => y = int r) := by
  unfold d_math_bits_LeadingZeros64 at h0
  refine pp_of_pc (R0 := fun y H => Cv (frzH H) y (int r)) ?_ (fun y H hc => ⟨_, rfl, pvI r, hc⟩)
  refine pcw (c := _) Tryz.func202 rfl rfl ?_; intro Q hret hnorm
  refine tc tbk 7 (.mk ?_)
  obtain ⟨x2, e2, h0⟩ := bind_e h0
  refine sC cal228 (d_math_bits_Len64_c e2) ?_
  refine ni tbk h0 fun x3 h0 => ?_
  refine tr tbk 2 (.mk ?_)
  obtain rfl := nxt_e h0
  refine wR hret (rT .nil) ?_
  exact .refl _
def d_math_bits_Div64_L0 (x11 : Int) (x12 : Int) (x21 : Int) : Nat → Int → Int → Option (Int)
  | 0, _, _ => none
  | n + 1, y0_1, y0_2 =>
    (show Option (Bool) from
    bnd (decide (y0_1 ≥ 4294967296)) fun x29 =>
    cond x29 (some (true : Bool)) (bnd (wu64 (y0_1 * x12)) fun x30 =>
    bnd (wu64 (4294967296 * y0_2)) fun x31 =>
    bnd (wu64 (x31 + x21)) fun x32 =>
    bnd (decide (x30 > x32)) fun x33 =>
    some (x33 : Bool))).bind <| fun y1_1 =>
    cond y1_1 (bnd (wu64 (y0_1 - 1)) fun x34 =>
    bnd (wu64 (y0_2 + x11)) fun x35 =>
    bnd (decide (x35 ≥ 4294967296)) fun x36 =>
    cond x36 (some (x34 : Int)) (d_math_bits_Div64_L0 x11 x12 x21 n (x34 : Int) (x35 : Int))) (some (y0_1 : Int))
def d_math_bits_Div64_L1 (x11 : Int) (x12 : Int) (x22 : Int) : Nat → Int → Int → Option (Int)
  | 0, _, _ => none
  | n + 1, y3_1, y3_2 =>
    (show Option (Bool) from
    bnd (decide (y3_2 ≥ 4294967296)) fun x47 =>
    cond x47 (some (true : Bool)) (bnd (wu64 (y3_2 * x12)) fun x48 =>
    bnd (wu64 (4294967296 * y3_1)) fun x49 =>
    bnd (wu64 (x49 + x22)) fun x50 =>
    bnd (decide (x48 > x50)) fun x51 =>
    some (x51 : Bool))).bind <| fun y4_1 =>
    cond y4_1 (bnd (wu64 (y3_2 - 1)) fun x52 =>
    bnd (wu64 (y3_1 + x11)) fun x53 =>
    bnd (decide (x53 ≥ 4294967296)) fun x54 =>
    cond x54 (some (x52 : Int)) (d_math_bits_Div64_L1 x11 x12 x22 n (x53 : Int) (x52 : Int))) (some (y3_2 : Int))
def d_math_bits_Div64 (n : Nat) (a1 : Int) (a2 : Int) (a3 : Int) : Option (Int × Int) :=
bnd (decide (a3 = 0)) fun x4 =>
cond x4 (none) (bnd (decide (a3 ≤ a1)) fun x5 =>
cond x5 (none) (bnd (decide (a1 = 0)) fun x6 =>
cond x6 (asrt (a3 ≠ 0) <|
bnd (wu64 (a2.tdiv a3)) fun x64 =>
asrt (a3 ≠ 0) <|
bnd (a2.tmod a3) fun x66 =>
some ((x64 : Int), (x66 : Int))) ((d_math_bits_LeadingZeros64 a3).bind fun x7 =>
bnd (wu64 x7) fun x8 =>
asrt ((0 : Int) ≤ x8) <|
bnd (wu64 (a3 * (2 ^ (min x8.toNat IntKind.u64.bits)))) fun x10 =>
bnd (x10.fdiv (2 ^ (min (32 : Int).toNat IntKind.u64.bits))) fun x11 =>
bnd (wu64 ((BitVec.ofInt IntKind.u64.bits x10 &&& BitVec.ofInt IntKind.u64.bits 4294967295).toNat : Int)) fun x12 =>
asrt ((0 : Int) ≤ x8) <|
bnd (wu64 (a1 * (2 ^ (min x8.toNat IntKind.u64.bits)))) fun x14 =>
bnd (wu64 (64 - x8)) fun x15 =>
asrt ((0 : Int) ≤ x15) <|
bnd (a2.fdiv (2 ^ (min x15.toNat IntKind.u64.bits))) fun x17 =>
bnd (wu64 ((BitVec.ofInt IntKind.u64.bits x14 ||| BitVec.ofInt IntKind.u64.bits x17).toNat : Int)) fun x18 =>
asrt ((0 : Int) ≤ x8) <|
bnd (wu64 (a2 * (2 ^ (min x8.toNat IntKind.u64.bits)))) fun x20 =>
bnd (x20.fdiv (2 ^ (min (32 : Int).toNat IntKind.u64.bits))) fun x21 =>
bnd (wu64 ((BitVec.ofInt IntKind.u64.bits x20 &&& BitVec.ofInt IntKind.u64.bits 4294967295).toNat : Int)) fun x22 =>
asrt (x11 ≠ 0) <|
bnd (wu64 (x18.tdiv x11)) fun x24 =>
bnd (wu64 (x24 * x11)) fun x25 =>
bnd (wu64 (x18 - x25)) fun x26 =>
(show Option (Int) from
d_math_bits_Div64_L0 x11 x12 x21 n (x24 : Int) (x26 : Int)).bind <| fun y2_1 =>
bnd (wu64 (x18 * 4294967296)) fun x37 =>
bnd (wu64 (x37 + x21)) fun x38 =>
bnd (wu64 (y2_1 * x10)) fun x39 =>
bnd (wu64 (x38 - x39)) fun x40 =>
asrt (x11 ≠ 0) <|
bnd (wu64 (x40.tdiv x11)) fun x42 =>
bnd (wu64 (x42 * x11)) fun x43 =>
bnd (wu64 (x40 - x43)) fun x44 =>
(show Option (Int) from
d_math_bits_Div64_L1 x11 x12 x22 n (x44 : Int) (x42 : Int)).bind <| fun y5_1 =>
bnd (wu64 (y2_1 * 4294967296)) fun x55 =>
bnd (wu64 (x55 + y5_1)) fun x56 =>
bnd (wu64 (x40 * 4294967296)) fun x57 =>
bnd (wu64 (x57 + x22)) fun x58 =>
bnd (wu64 (y5_1 * x10)) fun x59 =>
bnd (wu64 (x58 - x59)) fun x60 =>
asrt ((0 : Int) ≤ x8) <|
bnd (x60.fdiv (2 ^ (min x8.toNat IntKind.u64.bits))) fun x62 =>
some ((x56 : Int), (x62 : Int)))))
theorem d_math_bits_Div64_c {n : Nat} {a1 : Int} {a2 : Int} {a3 : Int} {r : Int × Int} (h0 : d_math_bits_Div64 n a1 a2 a3 = some r) : PP Tryz.prog 174 [.sc (.int .u64 a1), .sc (.int .u64 a2), .sc (.int .u64 a3)] (fun y => y = .tup [.sc (.int .u64 r.1), .sc (.int .u64 r.2)]) := by
  unfold d_math_bits_Div64 at h0
  refine pp_of_pc (R0 := fun y H => Cv (frzH H) y (.tup [.sc (.int .u64 r.1), .sc (.int .u64 r.2)])) ?_ (fun y H hc => ⟨_, rfl, .tup (pvl2 ((pvK .u64) (r.1)) ((pvK .u64) (r.2))), hc⟩)
  refine pcw (c := _) Tryz.func174 rfl rfl ?_; intro Q hret hnorm
  refine tc tbk 9 (.mk ?_)
  refine nb tbk h0 fun x4 h0 => ?_
  refine tr tbk 1 (.mk ?_)
  cases x4
  replace h0 := cf h0
  refine tc tbk 7 (.mk ?_)
  refine nb tbk h0 fun x5 h0 => ?_
  refine tr tbk 1 (.mk ?_)
  cases x5
  replace h0 := cf h0
  refine tc tbk 6 (.mk ?_)
  refine nb tbk h0 fun x6 h0 => ?_
  refine tr tbk 1 (.mk ?_)
  cases x6
  replace h0 := cf h0
  refine tc tbk 5 (.mk ?_)
  obtain ⟨x7, e7, h0⟩ := bind_e h0
  refine sC cal202 (d_math_bits_LeadingZeros64_c e7) ?_
  refine ni tbk h0 fun x8 h0 => ?_
  refine tr tbk 6 (.mk ?_)
  obtain ⟨p9, h0⟩ := asrt_e h0
  obtain ⟨x10, e10, h0⟩ := bnd_e h0
  refine sY (yv_shl rfl rfl rfl p9 e10) ?_
  refine tr tbk 5 (.mk ?_)
  refine ni tbk h0 fun x11 h0 => ?_
  refine tr tbk 5 (.mk ?_)
  obtain ⟨x12, e12, h0⟩ := bnd_e h0
  refine sY (yv_and rfl rfl rfl e12) ?_
  refine tr tbk 6 (.mk ?_)
  obtain ⟨p13, h0⟩ := asrt_e h0
  obtain ⟨x14, e14, h0⟩ := bnd_e h0
  refine sY (yv_shl rfl rfl rfl p13 e14) ?_
  refine tr tbk 2 (.mk ?_)
  refine ni tbk h0 fun x15 h0 => ?_
  obtain ⟨p16, h0⟩ := asrt_e h0
  obtain ⟨x17, e17, h0⟩ := bnd_e h0
  refine sY (yv_shr rfl rfl rfl p16 e17) ?_
  obtain ⟨x18, e18, h0⟩ := bnd_e h0
  refine sY (yv_or rfl rfl rfl e18) ?_
  refine tr tbk 6 (.mk ?_)
  obtain ⟨p19, h0⟩ := asrt_e h0
  obtain ⟨x20, e20, h0⟩ := bnd_e h0
  refine sY (yv_shl rfl rfl rfl p19 e20) ?_
  refine tr tbk 5 (.mk ?_)
  refine ni tbk h0 fun x21 h0 => ?_
  refine tr tbk 5 (.mk ?_)
  obtain ⟨x22, e22, h0⟩ := bnd_e h0
  refine sY (yv_and rfl rfl rfl e22) ?_
  refine tr tbk 6 (.mk ?_)
  obtain ⟨p23, h0⟩ := asrt_e h0
  obtain ⟨x24, e24, h0⟩ := bnd_e h0
  refine sY (yv_quo rfl rfl rfl p23 e24) ?_
  refine tr tbk 7 (.mk ?_)
  refine ni tbk h0 fun x25 h0 => ?_
  refine ni tbk h0 fun x26 h0 => ?_
  refine tr tbk 3 (.mk ?_)
  refine jn h0 [2, 6, 7, 8, 9, 10, 11, 13, 14] [] (fun (a : Int) (k : Unit) => [(15, .sc (.int .u64 a))]) (fun a k => []) ⟨fun j27 h1 => ?_, ?_⟩
  refine tc tbk 1 (.mk ?_)
  refine lp (fun n (a : Int × Int) => d_math_bits_Div64_L0 x11 x12 x21 n a.1 a.2) ((x24 : Int), (x26 : Int)) () h1 [2, 6, 7, 8, 9, 10, 11, 13, 14] [] (fun (a : Int × Int) (k : Unit) => [(15, .sc (.int .u64 a.1)), (16, .sc (.int .u64 a.2))]) (fun a k => []) (fun _ => rfl) ⟨leA, ?_⟩
  rintro n ⟨y0_1, y0_2⟩ _ hm h1
  replace h1 : d_math_bits_Div64_L0 x11 x12 x21 (n + 1) y0_1 y0_2 = some _ := h1
  rw [d_math_bits_Div64_L0] at h1
  refine tc tbk 2 (.mk ?_)
  refine jn h1 [2, 6, 7, 8, 9, 10, 11, 13, 14, 15, 16] [] (fun (a : Bool) (k : Unit) => [(78, boo a)]) (fun a k => []) ⟨fun j28 h2 => ?_, ?_⟩
  refine tc tbk 2 (.mk ?_)
  refine nb tbk h2 fun x29 h2 => ?_
  refine tr tbk 1 (.mk ?_)
  cases x29
  replace h2 := cf h2
  refine tr tbk 2 (.mk ?_)
  refine ni tbk h2 fun x30 h2 => ?_
  refine tr tbk 1 (.mk ?_)
  refine ni tbk h2 fun x31 h2 => ?_
  refine tr tbk 1 (.mk ?_)
  refine ni tbk h2 fun x32 h2 => ?_
  refine nb tbk h2 fun x33 h2 => ?_
  refine tr tbk 2 (.mk ?_)
  exact lf h2 () leA
  replace h2 := ct h2
  refine tr tbk 10 (.mk ?_)
  exact lf h2 () leA
  rintro y1_1 _ h1
  cases y1_1
  replace h1 := cf h1
  refine tc tbk 2 (.mk ?_)
  exact lf h1 () leA
  replace h1 := ct h1
  refine tc tbk 6 (.mk ?_)
  refine ni tbk h1 fun x34 h1 => ?_
  refine tr tbk 6 (.mk ?_)
  refine ni tbk h1 fun x35 h1 => ?_
  refine tr tbk 5 (.mk ?_)
  refine nb tbk h1 fun x36 h1 => ?_
  refine tr tbk 1 (.mk ?_)
  cases x36
  replace h1 := cf h1
  refine tc tbk 3 (.mk ?_)
  exact bk (x34, x35) () h1 leA
  replace h1 := ct h1
  refine tc tbk 2 (.mk ?_)
  exact lf h1 () leA
  rintro y2_1 _ h0
  refine tc tbk 3 (.mk ?_)
  refine ni tbk h0 fun x37 h0 => ?_
  refine tr tbk 1 (.mk ?_)
  refine ni tbk h0 fun x38 h0 => ?_
  refine tr tbk 2 (.mk ?_)
  refine ni tbk h0 fun x39 h0 => ?_
  refine ni tbk h0 fun x40 h0 => ?_
  refine tr tbk 6 (.mk ?_)
  obtain ⟨p41, h0⟩ := asrt_e h0
  obtain ⟨x42, e42, h0⟩ := bnd_e h0
  refine sY (yv_quo rfl rfl rfl p41 e42) ?_
  refine tr tbk 7 (.mk ?_)
  refine ni tbk h0 fun x43 h0 => ?_
  refine ni tbk h0 fun x44 h0 => ?_
  refine tr tbk 3 (.mk ?_)
  refine jn h0 [2, 6, 7, 8, 14, 15, 17] [] (fun (a : Int) (k : Unit) => [(18, .sc (.int .u64 a))]) (fun a k => []) ⟨fun j45 h1 => ?_, ?_⟩
  refine tc tbk 1 (.mk ?_)
  refine lp (fun n (a : Int × Int) => d_math_bits_Div64_L1 x11 x12 x22 n a.1 a.2) ((x44 : Int), (x42 : Int)) () h1 [2, 6, 7, 8, 9, 10, 14, 15, 17] [] (fun (a : Int × Int) (k : Unit) => [(16, .sc (.int .u64 a.1)), (18, .sc (.int .u64 a.2))]) (fun a k => []) (fun _ => rfl) ⟨leA, ?_⟩
  rintro n ⟨y3_1, y3_2⟩ _ hm h1
  replace h1 : d_math_bits_Div64_L1 x11 x12 x22 (n + 1) y3_1 y3_2 = some _ := h1
  rw [d_math_bits_Div64_L1] at h1
  refine tc tbk 2 (.mk ?_)
  refine jn h1 [2, 6, 7, 8, 9, 10, 14, 15, 16, 17, 18] [] (fun (a : Bool) (k : Unit) => [(113, boo a)]) (fun a k => []) ⟨fun j46 h2 => ?_, ?_⟩
  refine tc tbk 2 (.mk ?_)
  refine nb tbk h2 fun x47 h2 => ?_
  refine tr tbk 1 (.mk ?_)
  cases x47
  replace h2 := cf h2
  refine tr tbk 2 (.mk ?_)
  refine ni tbk h2 fun x48 h2 => ?_
  refine tr tbk 1 (.mk ?_)
  refine ni tbk h2 fun x49 h2 => ?_
  refine tr tbk 1 (.mk ?_)
  refine ni tbk h2 fun x50 h2 => ?_
  refine nb tbk h2 fun x51 h2 => ?_
  refine tr tbk 2 (.mk ?_)
  exact lf h2 () leA
  replace h2 := ct h2
  refine tr tbk 10 (.mk ?_)
  exact lf h2 () leA
  rintro y4_1 _ h1
  cases y4_1
  replace h1 := cf h1
  refine tc tbk 2 (.mk ?_)
  exact lf h1 () leA
  replace h1 := ct h1
  refine tc tbk 6 (.mk ?_)
  refine ni tbk h1 fun x52 h1 => ?_
  refine tr tbk 6 (.mk ?_)
  refine ni tbk h1 fun x53 h1 => ?_
  refine tr tbk 5 (.mk ?_)
  refine nb tbk h1 fun x54 h1 => ?_
  refine tr tbk 1 (.mk ?_)
  cases x54
  replace h1 := cf h1
  refine tc tbk 3 (.mk ?_)
  exact bk (x53, x52) () h1 leA
  replace h1 := ct h1
  refine tc tbk 2 (.mk ?_)
  exact lf h1 () leA
  rintro y5_1 _ h0
  refine tc tbk 3 (.mk ?_)
  refine ni tbk h0 fun x55 h0 => ?_
  refine tr tbk 1 (.mk ?_)
  refine ni tbk h0 fun x56 h0 => ?_
  refine tr tbk 1 (.mk ?_)
  refine ni tbk h0 fun x57 h0 => ?_
  refine tr tbk 1 (.mk ?_)
  refine ni tbk h0 fun x58 h0 => ?_
  refine tr tbk 2 (.mk ?_)
  refine ni tbk h0 fun x59 h0 => ?_
  refine ni tbk h0 fun x60 h0 => ?_
  refine tr tbk 1 (.mk ?_)
  obtain ⟨p61, h0⟩ := asrt_e h0
  obtain ⟨x62, e62, h0⟩ := bnd_e h0
  refine sY (yv_shr rfl rfl rfl p61 e62) ?_
  refine tr tbk 3 (.mk ?_)
  obtain rfl := nxt_e h0
  refine wR hret (rT (rT .nil)) ?_
  exact .refl _
  replace h0 := ct h0
  refine tc tbk 2 (.mk ?_)
  refine c_drawE [0, 0, 3, 0, 0, 24, 7, 127] (fun i => []) (fun i => []) (fun i => true) [0, 1, 2, 3, 4, 5, 6, 7] mixed (by kernel_rfl) ?_; intro K hK
  iterate 2 refine eM ?_
  obtain ⟨p63, h0⟩ := asrt_e h0
  obtain ⟨x64, e64, h0⟩ := bnd_e h0
  refine eP (fun H hH => yv_quo rfl rfl rfl p63 e64) ?_
  iterate 2 refine eM ?_
  obtain ⟨p65, h0⟩ := asrt_e h0
  obtain ⟨x66, e66, h0⟩ := bnd_e h0
  refine eP (fun H hH => yv_rem rfl rfl rfl p65 e66) ?_
  iterate 2 refine eA ?_
  refine de_nil (hK _ ?_)
  obtain rfl := nxt_e h0
  refine wR hret (rT (rT .nil)) ?_
  exact .refl _
  replace h0 := ct h0
  refine tc tbk 1 (.mk ?_)
  cases h0
  replace h0 := ct h0
  refine tc tbk 1 (.mk ?_)
  cases h0
def d_money_MulDiv (n : Nat) (a1 : Int) (a2 : Int) (a3 : Int) : Option (Int × Int × Int) :=
(show Option (Bool) from
bnd (decide (a1 < 0)) fun x5 =>
cond x5 (some (true : Bool)) (bnd (decide (a2 < 0)) fun x6 =>
cond x6 (some (true : Bool)) (bnd (decide (a3 < 1)) fun x7 =>
some (x7 : Bool)))).bind <| fun y0_1 =>
cond y0_1 (some ((0 : Int), (0 : Int), (1 : Int))) ((d_money_Wide a1 a2).bind fun x8 =>
bnd (wu64 a3) fun x9 =>
bnd (decide (x8.1 ≥ x9)) fun x10 =>
cond x10 (some ((0 : Int), (0 : Int), (2 : Int))) (bnd (wu64 a3) fun x11 =>
(d_math_bits_Div64 n x8.1 x8.2 x11).bind fun x12 =>
bnd (decide (x12.1 > 288230376151711744)) fun x13 =>
cond x13 (some ((0 : Int), (0 : Int), (2 : Int))) (bnd (w64 x12.1) fun x14 =>
bnd (w64 x12.2) fun x15 =>
some ((x14 : Int), (x15 : Int), (0 : Int)))))
theorem d_money_MulDiv_c {n : Nat} {a1 : Int} {a2 : Int} {a3 : Int} {r : Int × Int × Int} (h0 : d_money_MulDiv n a1 a2 a3 = some r) : PP Tryz.prog 118 [int a1, int a2, int a3] (fun y => y = .tup [int r.1, int r.2.1, int r.2.2]) := by
  unfold d_money_MulDiv at h0
  refine pp_of_pc (R0 := fun y H => Cv (frzH H) y (.tup [int r.1, int r.2.1, int r.2.2])) ?_ (fun y H hc => ⟨_, rfl, .tup (pvl3 (pvI (r.1)) (pvI (r.2.1)) (pvI (r.2.2))), hc⟩)
  refine pcw (c := _) Tryz.func118 rfl rfl ?_; intro Q hret hnorm
  refine tc tbk 8 (.mk ?_)
  refine jn h0 [0, 1, 2, 6, 7, 8] [] (fun (a : Bool) (k : Unit) => [(22, boo a)]) (fun a k => []) ⟨fun j4 h1 => ?_, ?_⟩
  refine tc tbk 2 (.mk ?_)
  refine nb tbk h1 fun x5 h1 => ?_
  refine tr tbk 1 (.mk ?_)
  cases x5
  replace h1 := cf h1
  refine tr tbk 1 (.mk ?_)
  refine nb tbk h1 fun x6 h1 => ?_
  refine tr tbk 2 (.mk ?_)
  cases x6
  replace h1 := cf h1
  refine tr tbk 1 (.mk ?_)
  refine nb tbk h1 fun x7 h1 => ?_
  refine tr tbk 2 (.mk ?_)
  exact lf h1 () leA
  replace h1 := ct h1
  refine tr tbk 4 (.mk ?_)
  exact lf h1 () leA
  replace h1 := ct h1
  refine tr tbk 8 (.mk ?_)
  exact lf h1 () leA
  rintro y0_1 _ h0
  cases y0_1
  replace h0 := cf h0
  refine tc tbk 6 (.mk ?_)
  obtain ⟨x8, e8, h0⟩ := bind_e h0
  refine sC cal173 (d_money_Wide_c e8) ?_
  refine tr tbk 11 (.mk ?_)
  refine ni tbk h0 fun x9 h0 => ?_
  refine nb tbk h0 fun x10 h0 => ?_
  refine tr tbk 1 (.mk ?_)
  cases x10
  replace h0 := cf h0
  refine tc tbk 7 (.mk ?_)
  refine ni tbk h0 fun x11 h0 => ?_
  obtain ⟨x12, e12, h0⟩ := bind_e h0
  refine sC cal174 (d_math_bits_Div64_c e12) ?_
  refine tr tbk 10 (.mk ?_)
  refine nb tbk h0 fun x13 h0 => ?_
  refine tr tbk 1 (.mk ?_)
  cases x13
  replace h0 := cf h0
  refine tc tbk 5 (.mk ?_)
  refine ni tbk h0 fun x14 h0 => ?_
  refine tr tbk 1 (.mk ?_)
  refine ni tbk h0 fun x15 h0 => ?_
  refine tr tbk 4 (.mk ?_)
  obtain rfl := nxt_e h0
  refine wR hret (rT (rT (rT .nil))) ?_
  exact .refl _
  replace h0 := ct h0
  refine tc tbk 7 (.mk ?_)
  obtain rfl := nxt_e h0
  refine wR hret (rT (rT (rT .nil))) ?_
  exact .refl _
  replace h0 := ct h0
  refine tc tbk 7 (.mk ?_)
  obtain rfl := nxt_e h0
  refine wR hret (rT (rT (rT .nil))) ?_
  exact .refl _
  replace h0 := ct h0
  refine tc tbk 7 (.mk ?_)
  obtain rfl := nxt_e h0
  refine wR hret (rT (rT (rT .nil))) ?_
  exact .refl _
def d_money_Part (n : Nat) (a1 : Int) (a2 : Int) (a3 : Int) : Option (Int) :=
(show Option (Bool) from
bnd (decide (a3 < 1)) fun x5 =>
cond x5 (some (true : Bool)) (bnd (decide (a2 < 0)) fun x6 =>
cond x6 (some (true : Bool)) (bnd (decide (a2 > a3)) fun x7 =>
cond x7 (some (true : Bool)) ((d_money_in a1).bind fun x8 =>
bnd (!x8) fun x9 =>
some (x9 : Bool))))).bind <| fun y0_1 =>
cond y0_1 (some ((0 : Int))) (bnd (decide (a2 = a3)) fun x10 =>
cond x10 (some ((a1 : Int))) (bnd (decide (a1 < 0)) fun x11 =>
cond x11 (bnd (w64 (0 - a1)) fun x13 =>
(d_money_MulDiv n x13 a2 a3).bind fun x14 =>
bnd (w64 (0 - x14.1)) fun x15 =>
some ((x15 : Int))) ((d_money_MulDiv n a1 a2 a3).bind fun x12 =>
some ((x12.1 : Int)))))
theorem d_money_Part_c {n : Nat} {a1 : Int} {a2 : Int} {a3 : Int} {r : Int} (h0 : d_money_Part n a1 a2 a3 = some r) : PP Tryz.prog 86 [int a1, int a2, int a3] (fun y => y = int r) := by
  unfold d_money_Part at h0
  refine pp_of_pc (R0 := fun y H => Cv (frzH H) y (int r)) ?_ (fun y H hc => ⟨_, rfl, pvI r, hc⟩)
  refine pcw (c := _) Tryz.func86 rfl rfl ?_; intro Q hret hnorm
  refine tc tbk 7 (.mk ?_)
  refine jn h0 [0, 1, 2, 6] [] (fun (a : Bool) (k : Unit) => [(13, boo a)]) (fun a k => []) ⟨fun j4 h1 => ?_, ?_⟩
  refine tc tbk 2 (.mk ?_)
  refine nb tbk h1 fun x5 h1 => ?_
  refine tr tbk 1 (.mk ?_)
  cases x5
  replace h1 := cf h1
  refine tr tbk 1 (.mk ?_)
  refine nb tbk h1 fun x6 h1 => ?_
  refine tr tbk 2 (.mk ?_)
  cases x6
  replace h1 := cf h1
  refine tr tbk 2 (.mk ?_)
  refine nb tbk h1 fun x7 h1 => ?_
  refine tr tbk 2 (.mk ?_)
  cases x7
  replace h1 := cf h1
  refine tr tbk 1 (.mk ?_)
  obtain ⟨x8, e8, h1⟩ := bind_e h1
  refine sC cal138 (d_money_in_c e8) ?_
  refine nb tbk h1 fun x9 h1 => ?_
  refine tr tbk 3 (.mk ?_)
  exact lf h1 () leA
  replace h1 := ct h1
  refine tr tbk 6 (.mk ?_)
  exact lf h1 () leA
  replace h1 := ct h1
  refine tr tbk 11 (.mk ?_)
  exact lf h1 () leA
  replace h1 := ct h1
  refine tr tbk 15 (.mk ?_)
  exact lf h1 () leA
  rintro y0_1 _ h0
  cases y0_1
  replace h0 := cf h0
  refine tc tbk 5 (.mk ?_)
  refine nb tbk h0 fun x10 h0 => ?_
  refine tr tbk 2 (.mk ?_)
  cases x10
  replace h0 := cf h0
  refine tc tbk 4 (.mk ?_)
  refine nb tbk h0 fun x11 h0 => ?_
  refine tr tbk 2 (.mk ?_)
  cases x11
  replace h0 := cf h0
  refine tc tbk 8 (.mk ?_)
  obtain ⟨x12, e12, h0⟩ := bind_e h0
  refine sC cal118 (d_money_MulDiv_c e12) ?_
  refine tr tbk 13 (.mk ?_)
  obtain rfl := nxt_e h0
  refine wR hret (rT .nil) ?_
  exact .refl _
  replace h0 := ct h0
  refine tc tbk 4 (.mk ?_)
  refine ni tbk h0 fun x13 h0 => ?_
  refine tr tbk 2 (.mk ?_)
  obtain ⟨x14, e14, h0⟩ := bind_e h0
  refine sC cal118 (d_money_MulDiv_c e14) ?_
  refine tr tbk 11 (.mk ?_)
  refine ni tbk h0 fun x15 h0 => ?_
  refine tr tbk 2 (.mk ?_)
  obtain rfl := nxt_e h0
  refine wR hret (rT .nil) ?_
  exact .refl _
  replace h0 := ct h0
  refine tc tbk 6 (.mk ?_)
  obtain rfl := nxt_e h0
  refine wR hret (rT .nil) ?_
  exact .refl _
  replace h0 := ct h0
  refine tc tbk 5 (.mk ?_)
  obtain rfl := nxt_e h0
  refine wR hret (rT .nil) ?_
  exact .refl _
def d_stdcost_rate_of (n : Nat) (a1 : Int) (a2 : Int) : Option (Int × Int) :=
bnd (if 0 > a2 then 0 else a2) fun x3 =>
(d_money_MulDiv n x3 a1 1).bind fun x4 =>
some ((x4.1 : Int), (x4.2.2 : Int))
theorem d_stdcost_rate_of_c {n : Nat} {a1 : Int} {a2 : Int} {r : Int × Int} (h0 : d_stdcost_rate_of n a1 a2 = some r) : PP Tryz.prog 176 [int a1, int a2] (fun y => y = .tup [int r.1, int r.2]) := by
  unfold d_stdcost_rate_of at h0
  refine pp_of_pc (R0 := fun y H => Cv (frzH H) y (.tup [int r.1, int r.2])) ?_ (fun y H hc => ⟨_, rfl, .tup (pvl2 (pvI (r.1)) (pvI (r.2))), hc⟩)
  refine pcw (c := _) Tryz.func176 rfl rfl ?_; intro Q hret hnorm
  refine tc tbk 8 (.mk ?_)
  obtain ⟨x3, e3, h0⟩ := bnd_e h0
  refine sY (yv_max rfl rfl rfl e3) ?_
  refine tr tbk 1 (.mk ?_)
  obtain ⟨x4, e4, h0⟩ := bind_e h0
  refine sC cal118 (d_money_MulDiv_c e4) ?_
  refine tr tbk 15 (.mk ?_)
  obtain rfl := nxt_e h0
  refine wR hret (rT (rT .nil)) ?_
  exact .refl _
def d_stdcost_Out_L0 : Nat → Nat → Nat → Int → (List GLayer) → GLayer → Option (Nat × Nat × (List GLayer) × GLayer)
  | 0, _, _, _, _, _ => none
  | n + 1, y1_1, y1_2, y1_3, y1_4, y1_5 =>
    (show Option (Bool) from
    bnd (decide ((y1_2 : Int) > 0)) fun x21 =>
    cond x21 (bnd (decide (y1_3 > 0)) fun x22 =>
    some (x22 : Bool)) (some (false : Bool))).bind <| fun y2_1 =>
    cond y2_1 (asrt ((0 : Int) ≤ 0 ∧ 0 < (y1_2 : Int)) <|
    (ix y1_4 (((y1_1 : Nat) : Int) + 0)).bind fun x24 =>
    bnd (decide (x24.Qty > y1_3)) fun x26 =>
    (show Option (Nat × Nat × (List GLayer) × GLayer) from
    cond x26 ((d_money_Part n x24.Value y1_3 x24.Qty).bind fun x30 =>
    (d_money_Part n x24.Profit y1_3 x24.Qty).bind fun x31 =>
    asrt ((0 : Int) ≤ 0 ∧ 0 < (y1_2 : Int)) <|
    bnd (w64 (x24.Qty - y1_3)) fun x33 =>
    asrt ((0 : Int) ≤ 0 ∧ 0 < (y1_2 : Int)) <|
    bnd (w64 (x24.Value - x30)) fun x35 =>
    asrt ((0 : Int) ≤ 0 ∧ 0 < (y1_2 : Int)) <|
    bnd (w64 (x24.Profit - x31)) fun x37 =>
    asrt ((0 : Int) ≤ 0 ∧ 0 < (y1_2 : Int)) <|
    bnd (y1_4.set (Int.toNat (((y1_1 : Nat) : Int) + 0)) ((⟨x33, x24.Value, x24.Profit⟩ : GLayer) : GLayer)) fun x39 =>
    asrt ((0 : Int) ≤ 0 ∧ 0 < (y1_2 : Int)) <|
    bnd (x39.set (Int.toNat (((y1_1 : Nat) : Int) + 0)) ((⟨((⟨x33, x24.Value, x24.Profit⟩ : GLayer) : GLayer).Qty, x35, ((⟨x33, x24.Value, x24.Profit⟩ : GLayer) : GLayer).Profit⟩ : GLayer) : GLayer)) fun x41 =>
    asrt ((0 : Int) ≤ 0 ∧ 0 < (y1_2 : Int)) <|
    bnd (x41.set (Int.toNat (((y1_1 : Nat) : Int) + 0)) ((⟨((⟨((⟨x33, x24.Value, x24.Profit⟩ : GLayer) : GLayer).Qty, x35, ((⟨x33, x24.Value, x24.Profit⟩ : GLayer) : GLayer).Profit⟩ : GLayer) : GLayer).Qty, ((⟨((⟨x33, x24.Value, x24.Profit⟩ : GLayer) : GLayer).Qty, x35, ((⟨x33, x24.Value, x24.Profit⟩ : GLayer) : GLayer).Profit⟩ : GLayer) : GLayer).Value, x37⟩ : GLayer) : GLayer)) fun x43 =>
    some ((y1_1 : Nat), (y1_2 : Nat), (x43 : List GLayer), ((⟨y1_3, x30, x31⟩ : GLayer) : GLayer))) (asrt ((0 : Int) ≤ 1 ∧ 1 ≤ (y1_2 : Int) ∧ (y1_2 : Int) ≤ (y1_2 : Int) ∧ 1 < (y1_2 + 1 : Int)) <|
    bnd (if (Int.toNat (y1_2 : Int)) = 1 then y1_1 else y1_1 + 1) fun x29 =>
    some ((x29 : Nat), (((Int.toNat (y1_2 : Int)) - 1) : Nat), (y1_4 : List GLayer), (x24 : GLayer)))).bind <| p2 fun (y3_1 : Nat) (q0 : Nat × (List GLayer) × GLayer) => (p2 fun (y3_2 : Nat) (q1 : (List GLayer) × GLayer) => (p2 fun (y3_3 : List GLayer) (y3_4 : GLayer) =>
    bnd (w64 (y1_5.Qty + y3_4.Qty)) fun x44 =>
    bnd (w64 (y1_5.Value + y3_4.Value)) fun x45 =>
    bnd (w64 (y1_5.Profit + y3_4.Profit)) fun x46 =>
    bnd (w64 (y1_3 - y3_4.Qty)) fun x47 =>
    d_stdcost_Out_L0 n (y3_1 : Nat) (y3_2 : Nat) (x47 : Int) (y3_3 : List GLayer) ((⟨x44, x45, x46⟩ : GLayer) : GLayer)) q1) q0) (some ((y1_1 : Nat), (y1_2 : Nat), (y1_4 : List GLayer), (y1_5 : GLayer)))
def d_stdcost_Out (n : Nat) (a1 : List GLayer) (a2 : Int) (a3 : Int) : Option ((List GLayer) × GLayer × Int) :=
(d_stdcost_rate_fits a3).bind fun x5 =>
bnd (!x5) fun x6 =>
cond x6 (asrt (a1.length ≤ 68719476736) <|
some ((a1 : List GLayer), ((⟨0, 0, 0⟩ : GLayer) : GLayer), (1 : Int))) ((show Option ((Nat × Nat × GLayer × Int × (List GLayer))) from
(show Option ((Unit)) from
some ()).bind <| fun _ =>
(show Option ((Nat × Nat × GLayer × Int × (List GLayer))) from
asrt (a1.length ≤ 68719476736) <|
bnd (decide (a2 < 1)) fun x15 =>
cond x15 (some ((0 : Nat), (a1.length : Nat), ((⟨0, 0, 0⟩ : GLayer) : GLayer), (1 : Int), (a1 : List GLayer))) ((d_fifo_has n a1 a2).bind fun x16 =>
bnd (!x16) fun x17 =>
cond x17 (some ((0 : Nat), (a1.length : Nat), ((⟨0, 0, 0⟩ : GLayer) : GLayer), (5 : Int), (a1 : List GLayer))) ((show Option (Nat × Nat × (List GLayer) × GLayer) from
d_stdcost_Out_L0 n (0 : Nat) (a1.length : Nat) (a2 : Int) (a1 : List GLayer) ((⟨0, 0, 0⟩ : GLayer) : GLayer)).bind <| p2 fun (y4_1 : Nat) (q0 : Nat × (List GLayer) × GLayer) => (p2 fun (y4_2 : Nat) (q1 : (List GLayer) × GLayer) => (p2 fun (y4_3 : List GLayer) (y4_4 : GLayer) =>
some ((y4_1 : Nat), (y4_2 : Nat), (y4_4 : GLayer), (0 : Int), (y4_3 : List GLayer))) q1) q0))).bind <| p2 fun (y5_2 : Nat) (q0 : Nat × GLayer × Int × (List GLayer)) => (p2 fun (y5_3 : Nat) (q1 : GLayer × Int × (List GLayer)) => (p2 fun (y5_4 : GLayer) (q2 : Int × (List GLayer)) => (p2 fun (y5_5 : Int) (y5_6 : List GLayer) =>
some ((y5_2 : Nat), (y5_3 : Nat), (y5_4 : GLayer), (y5_5 : Int), (y5_6 : List GLayer))) q2) q1) q0).bind <| p2 fun (y6_2 : Nat) (q0 : Nat × GLayer × Int × (List GLayer)) => (p2 fun (y6_3 : Nat) (q1 : GLayer × Int × (List GLayer)) => (p2 fun (y6_4 : GLayer) (q2 : Int × (List GLayer)) => (p2 fun (y6_5 : Int) (y6_6 : List GLayer) =>
(show Option (Bool) from
bnd (decide (y6_5 ≠ 0)) fun x50 =>
cond x50 (some (true : Bool)) (bnd (decide ((y6_3 : Int) = 0)) fun x51 =>
some (x51 : Bool))).bind <| fun y7_1 =>
cond y7_1 (asrt (y6_2 + y6_3 ≤ y6_6.length) <|
some (((((y6_6).drop y6_2).take y6_3) : List GLayer), (y6_4 : GLayer), (y6_5 : Int))) ((d_stdcost_rate_of n a3 a2).bind fun x52 =>
asrt ((0 : Int) ≤ 0 ∧ 0 < (y6_3 : Int)) <|
(ix y6_6 (((y6_2 : Nat) : Int) + 0)).bind fun x54 =>
bnd (w64 (x54.Value + y6_4.Value)) fun x55 =>
(show Option (Bool) from
bnd (decide (x52.2 ≠ 0)) fun x57 =>
cond x57 (some (true : Bool)) (bnd (decide (x52.1 > x55)) fun x58 =>
some (x58 : Bool))).bind <| fun y8_1 =>
(show Option (Int) from
cond y8_1 (some (x55 : Int)) (some (x52.1 : Int))).bind <| fun y9_1 =>
asrt ((0 : Int) ≤ 0 ∧ 0 < (y6_3 : Int)) <|
bnd (w64 (y6_4.Value - y9_1)) fun x61 =>
bnd (w64 (x54.Value + x61)) fun x62 =>
asrt ((0 : Int) ≤ 0 ∧ 0 < (y6_3 : Int)) <|
bnd (y6_6.set (Int.toNat (((y6_2 : Nat) : Int) + 0)) ((⟨x54.Qty, x62, x54.Profit⟩ : GLayer) : GLayer)) fun x64 =>
asrt (y6_2 + y6_3 ≤ x64.length) <|
some (((((x64).drop y6_2).take y6_3) : List GLayer), ((⟨y6_4.Qty, y9_1, y6_4.Profit⟩ : GLayer) : GLayer), (0 : Int)))) q2) q1) q0)
theorem d_stdcost_Out_c {n : Nat} {a1 : List GLayer} {a2 : Int} {a3 : Int} {r : (List GLayer) × GLayer × Int} (h0 : d_stdcost_Out n a1 a2 a3 = some r) : PP Tryz.prog 282 [lst 3 GLayer.av a1, int a2, int a3] (fun y => y = .tup [lst 3 GLayer.av r.1, .agg (GLayer.av r.2.1), int r.2.2]) := by
  unfold d_stdcost_Out at h0
  refine pp_of_pc (R0 := fun y H => Cv (frzH H) y (.tup [lst 3 GLayer.av r.1, .agg (GLayer.av r.2.1), int r.2.2])) ?_ (fun y H hc => ⟨_, rfl, .tup (pvl3 ((pvLs GLayer.pvc) (r.1)) ((fun (a : GLayer) => PV.agg (GLayer.pvc a)) (r.2.1)) (pvI (r.2.2))), hc⟩)
  refine pcw (c := _) Tryz.func282 rfl rfl ?_; intro Q hret hnorm
  refine tc tbk 3 (.mk ?_)
  refine sA 1 z50 fun v4 => ?_
  refine tr tbk 6 (.mk ?_)
  obtain ⟨x5, e5, h0⟩ := bind_e h0
  refine sC cal175 (d_stdcost_rate_fits_c e5) ?_
  refine nb tbk h0 fun x6 h0 => ?_
  refine tr tbk 1 (.mk ?_)
  cases x6
  replace h0 := cf h0
  refine tc tbk 6 (.mk ?_)
  obtain ⟨j7, h1, h0⟩ := bind_e h0
  refine rse (Out := fun y H' => (∃ (a : Nat × Nat × GLayer × Int × (List GLayer)) (k : Nat), a = j7 ∧ y = .tup [.sl 6 k a.1 a.2.1, .agg [int a.2.2.1.Qty, int a.2.2.1.Value, int a.2.2.1.Profit], int a.2.2.2.1] ∧ H' = hk [(1, ⟨50, 3, true, true, v4, [[int 0, int 0, int 0]]⟩), (6, ⟨50, 3, true, true, k, a.2.2.2.2.map GLayer.av⟩)])) rfl rfl rfl (yl_call rfl rfl (.cons rfl (.cons rfl .nil)) cal273 ?_) ?_
  refine pcw (c := _) Tryz.func273 rfl rfl ?_; intro Q hret hnorm
  refine tc tbk 3 (.mk ?_)
  refine sA 3 z50 fun v8 => ?_
  refine tr tbk 4 (.mk ?_)
  obtain ⟨j9, h2, h1⟩ := bind_e h1
  refine rse (Out := fun y H' => (∃ (a : Unit) (k : Unit), a = j9 ∧ y = .agg [.fn (.func 267) [] [], .fn (.func 268) [] [], .fn (.func 99) [] []] ∧ H' = hk [(1, ⟨50, 3, true, true, v4, [[int 0, int 0, int 0]]⟩), (3, ⟨50, 3, true, true, v8, [[int 0, int 0, int 0]]⟩)])) rfl rfl rfl (yl_call rfl rfl .nil cal274 ?_) ?_
  refine pcw (c := _) Tryz.func274 rfl rfl ?_; intro Q hret hnorm
  refine tc tbk 2 (.mk ?_)
  refine sA 4 z277 fun v10 => ?_
  refine tr tbk 4 (.mk ?_)
  refine sS ⟨277, 3, true, true, v10, [[.fn (.func 267) [] [], .fn (.func 268) [] [], .fn (.func 99) [] []]]⟩ sh277 ?_
  refine tr tbk 1 (.mk ?_)
  obtain rfl := nxt_e h2
  refine w_ret (hret _ _ (hk [(1, ⟨50, 3, true, true, v4, [[int 0, int 0, int 0]]⟩), (3, ⟨50, 3, true, true, v8, [[int 0, int 0, int 0]]⟩)]) (.cell rfl (.pt rfl rfl rfl) sh277 rfl .nil) (HK.le ⟨rfl, rfl, trivial⟩) ?_)
  exact ⟨(), (), rfl, rfl, rfl⟩
  rintro y _ ⟨_, _, rfl, hc, rfl⟩
  subst hc
  refine tr tbk 3 (.mk ?_)
  obtain ⟨j11, h2, h1⟩ := bind_e h1
  refine rse (Out := fun y H' => (∃ (a : Nat × Nat × GLayer × Int × (List GLayer)) (k : Nat), a = j11 ∧ y = .tup [.sl 6 k a.1 a.2.1, .agg [int a.2.2.1.Qty, int a.2.2.1.Value, int a.2.2.1.Profit], int a.2.2.2.1] ∧ H' = hk [(1, ⟨50, 3, true, true, v4, [[int 0, int 0, int 0]]⟩), (3, ⟨50, 3, true, true, v8, [[int 0, int 0, int 0]]⟩), (6, ⟨50, 3, true, true, k, a.2.2.2.2.map GLayer.av⟩)])) rfl rfl rfl (yl_call rfl rfl (.cons rfl (.cons rfl .nil)) cal268 ?_) ?_
  refine pcw (c := _) Tryz.func268 rfl rfl ?_; intro Q hret hnorm
  refine tc tbk 3 (.mk ?_)
  refine sA 5 z50 fun v12 => ?_
  refine tr tbk 5 (.mk ?_)
  obtain ⟨p13, h2⟩ := asrt_e h2
  refine rse rfl rfl rfl (yl_call rfl rfl (.cons rfl .nil) cal59 (pc_cv (clone59_c (id := 6) (l := a1) rfl p13) (.cons (.refl _) .nil))) ?_; rintro _ _ ⟨v14, rfl, rfl⟩
  refine tr tbk 6 (.mk ?_)
  refine nb tbk h2 fun x15 h2 => ?_
  refine tr tbk 1 (.mk ?_)
  cases x15
  replace h2 := cf h2
  refine tc tbk 7 (.mk ?_)
  obtain ⟨x16, e16, h2⟩ := bind_e h2
  refine sY (yv_callT (v := boo x16) rfl rfl (.cons rfl (.cons rfl .nil)) cal269 (.cons (cv_lst rfl rfl rfl rfl rfl (Eq.symm rfl)) (.cons (.refl _) .nil)) (d_fifo_has_c e16) rfl) ?_
  refine nb tbk h2 fun x17 h2 => ?_
  refine tr tbk 1 (.mk ?_)
  cases x17
  replace h2 := cf h2
  refine tc tbk 4 (.mk ?_)
  refine sA 7 z50 fun v18 => ?_
  refine tr tbk 2 (.mk ?_)
  refine jn h2 [4, 5, 6, 7] [1, 3, 5] (fun (a : Nat × Nat × (List GLayer) × GLayer) (k : Unit) => [(0, .sl 6 v14 a.1 a.2.1)]) (fun a k => [(6, ⟨50, 3, true, true, v14, a.2.2.1.map GLayer.av⟩), (7, ⟨50, 3, true, true, v18, [[int a.2.2.2.Qty, int a.2.2.2.Value, int a.2.2.2.Profit]]⟩)]) ⟨fun j19 h3 => ?_, ?_⟩
  refine tc tbk 1 (.mk ?_)
  refine lp (fun n (a : Nat × Nat × Int × (List GLayer) × GLayer) => d_stdcost_Out_L0 n a.1 a.2.1 a.2.2.1 a.2.2.2.1 a.2.2.2.2) ((0 : Nat), (a1.length : Nat), (a2 : Int), (a1 : List GLayer), ((⟨0, 0, 0⟩ : GLayer) : GLayer)) () h3 [4, 5, 6, 7] [1, 3, 5] (fun (a : Nat × Nat × Int × (List GLayer) × GLayer) (k : Unit) => [(0, .sl 6 v14 a.1 a.2.1), (1, int a.2.2.1)]) (fun a k => [(6, ⟨50, 3, true, true, v14, a.2.2.2.1.map GLayer.av⟩), (7, ⟨50, 3, true, true, v18, [[int a.2.2.2.2.Qty, int a.2.2.2.2.Value, int a.2.2.2.2.Profit]]⟩)]) (fun _ => rfl) ⟨leA, ?_⟩
  rintro n ⟨y1_1, y1_2, y1_3, y1_4, y1_5⟩ _ hm h3
  replace h3 : d_stdcost_Out_L0 (n + 1) y1_1 y1_2 y1_3 y1_4 y1_5 = some _ := h3
  rw [d_stdcost_Out_L0] at h3
  refine tc tbk 2 (.mk ?_)
  refine jn h3 [0, 1, 4, 5, 6, 7] [1, 3, 5, 6, 7] (fun (a : Bool) (k : Unit) => [(27, boo a)]) (fun a k => []) ⟨fun j20 h4 => ?_, ?_⟩
  refine tc tbk 2 (.mk ?_)
  refine sY (yv_len_sl rfl Tryz.underlying39 rfl (.sl rfl rfl)) ?_
  refine nb tbk h4 fun x21 h4 => ?_
  refine tr tbk 1 (.mk ?_)
  cases x21
  replace h4 := cf h4
  refine tr tbk 4 (.mk ?_)
  exact lf h4 () leA
  replace h4 := ct h4
  refine tr tbk 1 (.mk ?_)
  refine nb tbk h4 fun x22 h4 => ?_
  refine tr tbk 2 (.mk ?_)
  exact lf h4 () leA
  rintro y2_1 _ h3
  cases y2_1
  replace h3 := cf h3
  refine tc tbk 2 (.mk ?_)
  exact lf h3 () leA
  replace h3 := ct h3
  refine tc tbk 6 (.mk ?_)
  obtain ⟨p23, h3⟩ := asrt_e h3
  obtain ⟨x24, e24, h3⟩ := bind_e h3
  refine sY (yv_ixW rfl Tryz.underlying39 sh50 rfl rfl rfl rfl rfl p23 (List.length_map _) e24) ?_
  refine sY (yv_load rfl sh50 rfl (.pt rfl rfl (ix_get e24)) rfl) ?_
  refine sA 8 z50 fun v25 => ?_
  refine sS ⟨50, 3, true, true, v25, [[int x24.Qty, int x24.Value, int x24.Profit]]⟩ sh50 ?_
  refine tr tbk 7 (.mk ?_)
  refine nb tbk h3 fun x26 h3 => ?_
  refine tr tbk 1 (.mk ?_)
  refine jn h3 [1, 4, 5, 6, 7, 8] [1, 3, 5, 7] (fun (a : Nat × Nat × (List GLayer) × GLayer) (k : Unit) => [(0, .sl 6 v14 a.1 a.2.1)]) (fun a k => [(6, ⟨50, 3, true, true, v14, a.2.2.1.map GLayer.av⟩), (8, ⟨50, 3, true, true, v25, [[int a.2.2.2.Qty, int a.2.2.2.Value, int a.2.2.2.Profit]]⟩)]) ⟨fun j27 h4 => ?_, ?_⟩
  cases x26
  replace h4 := cf h4
  refine tc tbk 4 (.mk ?_)
  refine sY (yv_len_sl rfl Tryz.underlying39 rfl (.sl rfl rfl)) ?_
  refine tr tbk 1 (.mk ?_)
  refine sY (yv_len_sl rfl Tryz.underlying39 rfl (.sl rfl rfl)) ?_
  obtain ⟨p28, h4⟩ := asrt_e h4
  obtain ⟨x29, e29, h4⟩ := bnd_e h4
  refine sY (yv_slO3 (len := y1_2) (i := 1) (j := (Int.toNat (y1_2 : Int))) rfl Tryz.underlying39 sh50 rfl rfl rfl rfl (.yes rfl (by first | omega | (dsimp only; omega) | (dsimp only at *; omega))) (.yes rfl (by first | omega | (dsimp only; omega) | (dsimp only at *; omega))) (.yes rfl (by first | omega | (dsimp only; omega) | (dsimp only at *; omega))) (by first | omega | (dsimp only; omega) | (dsimp only at *; omega)) (by first | omega | (dsimp only; omega) | (dsimp only at *; omega)) e29) ?_
  refine tr tbk 2 (.mk ?_)
  exact lf h4 () leA
  replace h4 := ct h4
  refine tc tbk 2 (.mk ?_)
  refine c_drawE [0, 0, 2, 0, 0, 16, 62, 0, 128, 0, 0, 1024, 4094, 8191, 16383] (rl [(1, [8]), (2, [8]), (4, [8]), (5, [8]), (7, [8]), (8, [8]), (10, [8]), (11, [8])] []) (rl [(14, [])] [8]) (rl [(14, false)] true) [0, 1, 2, 3, 4, 5, 6, 7, 8, 9, 10, 11, 12, 13, 14] mixed (by kernel_rfl) ?_; intro K hK
  refine eM ?_
  refine eF fo50_1 ?_
  refine eL sh3 ?_
  refine eM ?_
  refine eF fo50_0 ?_
  refine eL sh3 ?_
  obtain ⟨x30, e30, h4⟩ := bind_e h4
  refine eP (fun H hH => yv_callP rfl rfl (.cons rfl (.cons rfl (.cons rfl .nil))) cal86 (CvL.refl _) (d_money_Part_c e30)) ?_
  refine eF fo50_2 ?_
  refine eL sh3 ?_
  refine eM ?_
  refine eF fo50_0 ?_
  refine eL sh3 ?_
  obtain ⟨x31, e31, h4⟩ := bind_e h4
  refine eP (fun H hH => yv_callP rfl rfl (.cons rfl (.cons rfl (.cons rfl .nil))) cal86 (CvL.refl _) (d_money_Part_c e31)) ?_
  refine eP (fun H hH => yv_build (cs := [int y1_3, int x30, int x31]) (ps := [(0, _), (1, _), (2, _)]) rfl pl50 z50 rfl (.cons rfl (.cons rfl (.cons rfl .nil))) (by kernel_rfl)) ?_
  refine de_eff0 rfl rfl rfl rfl (Yield.weak (yl_ob (ob' := (⟨50, 3, true, true, v25, [[int y1_3, int x30, int x31]]⟩ : AObj)) (yl_store rfl sh50 rfl rfl rfl rfl rfl rfl rfl rfl rfl) rfl) (fun _ h => h) (fun _ _ => trivial)) (by rintro _ _ ⟨rfl, rfl⟩; exact trivial) ?_; rintro _ _ ⟨rfl, rfl⟩
  refine de_nil (hK _ ?_)
  refine c_drawE [0, 0, 0, 0, 8, 24, 56, 0, 128, 504, 0, 1024, 3072, 7168, 0, 16384, 64512, 0, 131072, 393216, 917504, 0, 2097152, 8257536, 1982457, 18759673, 52314105, 119537659, 253755387, 522190843, 1073741823, 2147483647, 4294967295] (rl [(4, [6]), (5, [6]), (6, [6]), (7, [8]), (8, [8]), (11, [6]), (12, [6]), (13, [6]), (14, [8]), (15, [8]), (18, [6]), (19, [6]), (20, [6]), (21, [8]), (22, [8]), (24, [6]), (25, [6]), (27, [6]), (28, [6]), (30, [6]), (31, [6])] []) (rl [(26, [8]), (29, [8]), (32, [])] [6, 8]) (rl [(26, false), (29, false), (32, false)] true) [0, 1, 2, 3, 4, 5, 6, 7, 8, 9, 10, 11, 12, 13, 14, 15, 16, 17, 18, 19, 20, 21, 22, 23, 24, 25, 26, 27, 28, 29, 30, 31, 32] mixed (by kernel_rfl) ?_; intro K hK
  iterate 4 refine eM ?_
  obtain ⟨p32, h4⟩ := asrt_e h4
  refine de_pure rfl rfl rfl rfl (fun H hH => yv_ixW rfl Tryz.underlying39 sh50 rfl rfl ((hH _ (by decide)).trans rfl) rfl rfl p32 (List.length_map _) e24) ?_
  refine eF fo50_0 (hr := ix_get e24) ?_
  refine eL sh3 (hr := ix_get e24) ?_
  refine eF fo50_0 ?_
  refine eL sh3 ?_
  obtain ⟨x33, e33, h4⟩ := bnd_e h4
  refine eP (fun H hH => yv_sub rfl rfl rfl e33) ?_
  refine eM ?_
  obtain ⟨p34, h4⟩ := asrt_e h4
  refine de_pure rfl rfl rfl rfl (fun H hH => yv_ixW rfl Tryz.underlying39 sh50 rfl rfl ((hH _ (by decide)).trans rfl) rfl rfl p34 (List.length_map _) e24) ?_
  refine eF fo50_1 (hr := ix_get e24) ?_
  refine eL sh3 (hr := ix_get e24) ?_
  refine eF fo50_1 ?_
  refine eL sh3 ?_
  obtain ⟨x35, e35, h4⟩ := bnd_e h4
  refine eP (fun H hH => yv_sub rfl rfl rfl e35) ?_
  refine eM ?_
  obtain ⟨p36, h4⟩ := asrt_e h4
  refine de_pure rfl rfl rfl rfl (fun H hH => yv_ixW rfl Tryz.underlying39 sh50 rfl rfl ((hH _ (by decide)).trans rfl) rfl rfl p36 (List.length_map _) e24) ?_
  refine eF fo50_2 (hr := ix_get e24) ?_
  refine eL sh3 (hr := ix_get e24) ?_
  refine eF fo50_2 ?_
  refine eL sh3 ?_
  obtain ⟨x37, e37, h4⟩ := bnd_e h4
  refine eP (fun H hH => yv_sub rfl rfl rfl e37) ?_
  obtain ⟨p38, h4⟩ := asrt_e h4
  refine de_pure rfl rfl rfl rfl (fun H hH => yv_ixW rfl Tryz.underlying39 sh50 rfl rfl ((hH _ (by decide)).trans rfl) rfl rfl p38 (List.length_map _) e24) ?_
  refine eF fo50_0 (hr := ix_get e24) ?_
  obtain ⟨x39, e39, h4⟩ := bnd_e h4
  have fx39 := ix_set e24 e39; have lx39 := len_setV e39 (rfl : y1_4.length = y1_4.length)
  refine de_eff0 rfl rfl rfl rfl (Yield.weak (yl_ob (ob' := (⟨50, 3, true, true, v14, x39.map GLayer.av⟩ : AObj)) (yl_store rfl sh3 rfl rfl rfl rfl rfl (ix_get e24) rfl rfl rfl) (ob_eq (map_setV e39))) (fun _ h => h) (fun _ _ => trivial)) (by rintro _ _ ⟨rfl, rfl⟩; exact ⟨rfl, trivial⟩) ?_; rintro _ _ ⟨rfl, rfl⟩
  obtain ⟨p40, h4⟩ := asrt_e h4
  refine de_pure rfl rfl rfl rfl (fun H hH => yv_ixW rfl Tryz.underlying39 sh50 rfl rfl ((hH _ (by decide)).trans rfl) rfl rfl p40 (List.length_map _) fx39) ?_
  refine eF fo50_1 (hr := ix_get fx39) ?_
  obtain ⟨x41, e41, h4⟩ := bnd_e h4
  have fx41 := ix_set fx39 e41; have lx41 := len_setV e41 lx39
  refine de_eff0 rfl rfl rfl rfl (Yield.weak (yl_ob (ob' := (⟨50, 3, true, true, v14, x41.map GLayer.av⟩ : AObj)) (yl_store rfl sh3 rfl rfl rfl rfl rfl (ix_get fx39) rfl rfl rfl) (ob_eq (map_setV e41))) (fun _ h => h) (fun _ _ => trivial)) (by rintro _ _ ⟨rfl, rfl⟩; exact ⟨rfl, trivial⟩) ?_; rintro _ _ ⟨rfl, rfl⟩
  obtain ⟨p42, h4⟩ := asrt_e h4
  refine de_pure rfl rfl rfl rfl (fun H hH => yv_ixW rfl Tryz.underlying39 sh50 rfl rfl ((hH _ (by decide)).trans rfl) rfl rfl p42 (List.length_map _) fx41) ?_
  refine eF fo50_2 (hr := ix_get fx41) ?_
  obtain ⟨x43, e43, h4⟩ := bnd_e h4
  have fx43 := ix_set fx41 e43; have lx43 := len_setV e43 lx41
  refine de_eff0 rfl rfl rfl rfl (Yield.weak (yl_ob (ob' := (⟨50, 3, true, true, v14, x43.map GLayer.av⟩ : AObj)) (yl_store rfl sh3 rfl rfl rfl rfl rfl (ix_get fx41) rfl rfl rfl) (ob_eq (map_setV e43))) (fun _ h => h) (fun _ _ => trivial)) (by rintro _ _ ⟨rfl, rfl⟩; exact trivial) ?_; rintro _ _ ⟨rfl, rfl⟩
  refine de_nil (hK _ ?_)
  exact lf h4 () leA
  rintro ⟨y3_1, y3_2, y3_3, y3_4⟩ _ h3
  replace h3 := p2_e h3
  replace h3 := p2_e h3
  replace h3 := p2_e h3
  refine tc tbk 1 (.mk ?_)
  refine c_drawE [0, 1, 0, 4, 15, 0, 32, 0, 128, 480, 0, 1024, 0, 4096, 15360, 3199, 35967, 102399, 233471, 524287, 1048575] (rl [(0, [7]), (1, [7]), (2, [8]), (3, [8]), (5, [7]), (6, [7]), (7, [8]), (8, [8]), (10, [7]), (11, [7]), (12, [8]), (13, [8]), (15, [7]), (17, [7]), (19, [7])] []) (rl [(16, [8]), (18, [8]), (20, [])] [7, 8]) (rl [(16, false), (18, false), (20, false)] true) [0, 1, 2, 3, 4, 5, 6, 7, 8, 9, 10, 11, 12, 13, 14, 15, 16, 17, 18, 19, 20] mixed (by kernel_rfl) ?_; intro K hK
  refine eF fo50_0 ?_
  refine eL sh3 ?_
  refine eF fo50_0 ?_
  refine eL sh3 ?_
  obtain ⟨x44, e44, h3⟩ := bnd_e h3
  refine eP (fun H hH => yv_add rfl rfl rfl e44) ?_
  refine eF fo50_1 ?_
  refine eL sh3 ?_
  refine eF fo50_1 ?_
  refine eL sh3 ?_
  obtain ⟨x45, e45, h3⟩ := bnd_e h3
  refine eP (fun H hH => yv_add rfl rfl rfl e45) ?_
  refine eF fo50_2 ?_
  refine eL sh3 ?_
  refine eF fo50_2 ?_
  refine eL sh3 ?_
  obtain ⟨x46, e46, h3⟩ := bnd_e h3
  refine eP (fun H hH => yv_add rfl rfl rfl e46) ?_
  refine eF fo50_0 ?_
  refine de_eff0 rfl rfl rfl rfl (Yield.weak (yl_ob (ob' := (⟨50, 3, true, true, v18, [[int x44, int y1_5.Value, int y1_5.Profit]]⟩ : AObj)) (yl_store rfl sh3 rfl rfl rfl rfl rfl rfl rfl rfl rfl) rfl) (fun _ h => h) (fun _ _ => trivial)) (by rintro _ _ ⟨rfl, rfl⟩; exact ⟨rfl, trivial⟩) ?_; rintro _ _ ⟨rfl, rfl⟩
  refine eF fo50_1 ?_
  refine de_eff0 rfl rfl rfl rfl (Yield.weak (yl_ob (ob' := (⟨50, 3, true, true, v18, [[int x44, int x45, int y1_5.Profit]]⟩ : AObj)) (yl_store rfl sh3 rfl rfl rfl rfl rfl rfl rfl rfl rfl) rfl) (fun _ h => h) (fun _ _ => trivial)) (by rintro _ _ ⟨rfl, rfl⟩; exact ⟨rfl, trivial⟩) ?_; rintro _ _ ⟨rfl, rfl⟩
  refine eF fo50_2 ?_
  refine de_eff0 rfl rfl rfl rfl (Yield.weak (yl_ob (ob' := (⟨50, 3, true, true, v18, [[int x44, int x45, int x46]]⟩ : AObj)) (yl_store rfl sh3 rfl rfl rfl rfl rfl rfl rfl rfl rfl) rfl) (fun _ h => h) (fun _ _ => trivial)) (by rintro _ _ ⟨rfl, rfl⟩; exact trivial) ?_; rintro _ _ ⟨rfl, rfl⟩
  refine de_nil (hK _ ?_)
  refine tc tbk 4 (.mk ?_)
  refine ni tbk h3 fun x47 h3 => ?_
  refine tr tbk 3 (.mk ?_)
  exact bk (y3_1, y3_2, x47, y3_3, (⟨x44, x45, x46⟩ : GLayer)) () h3 leA
  rintro ⟨y4_1, y4_2, y4_3, y4_4⟩ _ h2
  replace h2 := p2_e h2
  replace h2 := p2_e h2
  replace h2 := p2_e h2
  refine tc tbk 1 (.mk ?_)
  refine c_drawE [0, 0, 1, 7, 15] (rl [(1, [7])] []) (rl [(3, [])] [7]) (rl [(3, false)] true) [0, 1, 2, 3, 4] mixed (by kernel_rfl) ?_; intro K hK
  refine eM ?_
  refine eL sh50 ?_
  refine eA ?_
  refine de_eff0 rfl rfl rfl rfl (Yield.weak (yl_ob (ob' := (⟨50, 3, true, true, v12, [[int y4_4.Qty, int y4_4.Value, int y4_4.Profit]]⟩ : AObj)) (yl_store rfl sh50 rfl rfl rfl rfl rfl rfl rfl rfl rfl) rfl) (fun _ h => h) (fun _ _ => trivial)) (by rintro _ _ ⟨rfl, rfl⟩; exact trivial) ?_; rintro _ _ ⟨rfl, rfl⟩
  refine eA ?_
  refine de_nil (hK _ ?_)
  obtain rfl := nxt_e h2
  refine w_ret (hret _ _ (hk [(1, ⟨50, 3, true, true, v4, [[int 0, int 0, int 0]]⟩), (3, ⟨50, 3, true, true, v8, [[int 0, int 0, int 0]]⟩), (6, ⟨50, 3, true, true, v14, y4_3.map GLayer.av⟩)]) (.tmp rfl (.cell rfl (.pt rfl rfl rfl) sh50 rfl (.tmp rfl .nil))) (HK.le ⟨rfl, rfl, rfl, trivial⟩) ?_)
  exact ⟨(y4_1, y4_2, y4_4, 0, y4_3), v14, rfl, rfl, rfl⟩
  replace h2 := ct h2
  refine tc tbk 6 (.mk ?_)
  refine sS ⟨50, 3, true, true, v12, [[int 0, int 0, int 0]]⟩ sh50 ?_
  refine tr tbk 2 (.mk ?_)
  obtain rfl := nxt_e h2
  refine w_ret (hret _ _ (hk [(1, ⟨50, 3, true, true, v4, [[int 0, int 0, int 0]]⟩), (3, ⟨50, 3, true, true, v8, [[int 0, int 0, int 0]]⟩), (6, ⟨50, 3, true, true, v14, a1.map GLayer.av⟩)]) (.tmp rfl (.cell rfl (.pt rfl rfl rfl) sh50 rfl (.tmp rfl .nil))) (HK.le ⟨rfl, rfl, rfl, trivial⟩) ?_)
  exact ⟨(0, a1.length, (⟨0, 0, 0⟩ : GLayer), 5, a1), v14, rfl, rfl, rfl⟩
  replace h2 := ct h2
  refine tc tbk 6 (.mk ?_)
  refine sS ⟨50, 3, true, true, v12, [[int 0, int 0, int 0]]⟩ sh50 ?_
  refine tr tbk 2 (.mk ?_)
  obtain rfl := nxt_e h2
  refine w_ret (hret _ _ (hk [(1, ⟨50, 3, true, true, v4, [[int 0, int 0, int 0]]⟩), (3, ⟨50, 3, true, true, v8, [[int 0, int 0, int 0]]⟩), (6, ⟨50, 3, true, true, v14, a1.map GLayer.av⟩)]) (.tmp rfl (.cell rfl (.pt rfl rfl rfl) sh50 rfl (.tmp rfl .nil))) (HK.le ⟨rfl, rfl, rfl, trivial⟩) ?_)
  exact ⟨(0, a1.length, (⟨0, 0, 0⟩ : GLayer), 1, a1), v14, rfl, rfl, rfl⟩
  rintro y _ ⟨⟨y5_2, y5_3, y5_4, y5_5, y5_6⟩, w5_1, rfl, hc, rfl⟩
  replace h1 := p2_e h1
  replace h1 := p2_e h1
  replace h1 := p2_e h1
  replace h1 := p2_e h1
  subst hc
  refine tr tbk 4 (.mk ?_)
  refine sS ⟨50, 3, true, true, v8, [[int y5_4.Qty, int y5_4.Value, int y5_4.Profit]]⟩ sh50 ?_
  refine tr tbk 2 (.mk ?_)
  obtain rfl := nxt_e h1
  refine w_ret (hret _ _ (hk [(1, ⟨50, 3, true, true, v4, [[int 0, int 0, int 0]]⟩), (6, ⟨50, 3, true, true, w5_1, y5_6.map GLayer.av⟩)]) (.tmp rfl (.cell rfl (.pt rfl rfl rfl) sh50 rfl (.tmp rfl .nil))) (HK.le ⟨rfl, rfl, trivial⟩) ?_)
  exact ⟨(y5_2, y5_3, y5_4, y5_5, y5_6), w5_1, rfl, rfl, rfl⟩
  rintro y _ ⟨⟨y6_2, y6_3, y6_4, y6_5, y6_6⟩, w6_1, rfl, hc, rfl⟩
  replace h0 := p2_e h0
  replace h0 := p2_e h0
  replace h0 := p2_e h0
  replace h0 := p2_e h0
  subst hc
  refine tr tbk 4 (.mk ?_)
  refine sA 9 z50 fun v48 => ?_
  refine tr tbk 1 (.mk ?_)
  refine sS ⟨50, 3, true, true, v48, [[int y6_4.Qty, int y6_4.Value, int y6_4.Profit]]⟩ sh50 ?_
  refine tr tbk 4 (.mk ?_)
  refine jn h0 [1, 2, 6, 7, 8, 9, 10, 11] [1, 6, 9] (fun (a : Bool) (k : Unit) => [(33, boo a)]) (fun a k => []) ⟨fun j49 h1 => ?_, ?_⟩
  refine tc tbk 2 (.mk ?_)
  refine nb tbk h1 fun x50 h1 => ?_
  refine tr tbk 1 (.mk ?_)
  cases x50
  replace h1 := cf h1
  refine tr tbk 1 (.mk ?_)
  refine sY (yv_len_sl rfl Tryz.underlying39 rfl (.sl rfl rfl)) ?_
  refine nb tbk h1 fun x51 h1 => ?_
  refine tr tbk 2 (.mk ?_)
  exact lf h1 () leA
  replace h1 := ct h1
  refine tr tbk 5 (.mk ?_)
  exact lf h1 () leA
  rintro y7_1 _ h0
  cases y7_1
  replace h0 := cf h0
  refine tc tbk 6 (.mk ?_)
  obtain ⟨x52, e52, h0⟩ := bind_e h0
  refine sC cal176 (d_stdcost_rate_of_c e52) ?_
  refine tr tbk 8 (.mk ?_)
  refine c_drawE [0, 1, 3, 7, 0, 16, 63, 127] (rl [(1, [6]), (2, [6]), (3, [6]), (4, [9]), (5, [9])] []) (fun i => [6, 9]) (fun i => true) [0, 1, 2, 3, 4, 5, 6, 7] mixed (by kernel_rfl) ?_; intro K hK
  refine eM ?_
  obtain ⟨p53, h0⟩ := asrt_e h0
  obtain ⟨x54, e54, h0⟩ := bind_e h0
  refine de_pure rfl rfl rfl rfl (fun H hH => yv_ixW rfl Tryz.underlying39 sh50 rfl rfl ((hH _ (by decide)).trans rfl) rfl rfl p53 (List.length_map _) e54) ?_
  refine eF fo50_1 (hr := ix_get e54) ?_
  refine eL sh3 (hr := ix_get e54) ?_
  refine eF fo50_1 ?_
  refine eL sh3 ?_
  obtain ⟨x55, e55, h0⟩ := bnd_e h0
  refine eP (fun H hH => yv_add rfl rfl rfl e55) ?_
  refine eA ?_
  refine de_nil (hK _ ?_)
  refine tc tbk 1 (.mk ?_)
  refine jn h0 [6, 7, 8, 9, 10, 12, 13] [1, 6, 9] (fun (a : Bool) (k : Unit) => [(56, boo a)]) (fun a k => []) ⟨fun j56 h1 => ?_, ?_⟩
  refine tc tbk 2 (.mk ?_)
  refine nb tbk h1 fun x57 h1 => ?_
  refine tr tbk 1 (.mk ?_)
  cases x57
  replace h1 := cf h1
  refine tr tbk 2 (.mk ?_)
  refine nb tbk h1 fun x58 h1 => ?_
  refine tr tbk 2 (.mk ?_)
  exact lf h1 () leA
  replace h1 := ct h1
  refine tr tbk 5 (.mk ?_)
  exact lf h1 () leA
  rintro y8_1 _ h0
  refine jn h0 [6, 7, 8, 9, 10] [1, 6, 9] (fun (a : Int) (k : Unit) => [(12, int a)]) (fun a k => []) ⟨fun j59 h1 => ?_, ?_⟩
  cases y8_1
  replace h1 := cf h1
  refine tc tbk 2 (.mk ?_)
  exact lf h1 () leA
  replace h1 := ct h1
  refine tc tbk 5 (.mk ?_)
  exact lf h1 () leA
  rintro y9_1 _ h0
  refine tc tbk 1 (.mk ?_)
  refine c_drawE [0, 1, 3, 7, 0, 16, 0, 112, 255, 511, 1023, 2047] (rl [(1, [6]), (2, [6]), (3, [6]), (4, [9]), (5, [9]), (9, [6]), (10, [6])] []) (rl [(11, [])] [6, 9]) (rl [(11, false)] true) [0, 1, 2, 3, 4, 5, 6, 7, 8, 9, 10, 11] mixed (by kernel_rfl) ?_; intro K hK
  refine eM ?_
  obtain ⟨p60, h0⟩ := asrt_e h0
  refine de_pure rfl rfl rfl rfl (fun H hH => yv_ixW rfl Tryz.underlying39 sh50 rfl rfl ((hH _ (by decide)).trans rfl) rfl rfl p60 (List.length_map _) e54) ?_
  refine eF fo50_1 (hr := ix_get e54) ?_
  refine eL sh3 (hr := ix_get e54) ?_
  refine eF fo50_1 ?_
  refine eL sh3 ?_
  refine eM ?_
  obtain ⟨x61, e61, h0⟩ := bnd_e h0
  refine eP (fun H hH => yv_sub rfl rfl rfl e61) ?_
  obtain ⟨x62, e62, h0⟩ := bnd_e h0
  refine eP (fun H hH => yv_add rfl rfl rfl e62) ?_
  obtain ⟨p63, h0⟩ := asrt_e h0
  refine de_pure rfl rfl rfl rfl (fun H hH => yv_ixW rfl Tryz.underlying39 sh50 rfl rfl ((hH _ (by decide)).trans rfl) rfl rfl p63 (List.length_map _) e54) ?_
  refine eF fo50_1 (hr := ix_get e54) ?_
  obtain ⟨x64, e64, h0⟩ := bnd_e h0
  have fx64 := ix_set e54 e64; have lx64 := len_setV e64 (rfl : y6_6.length = y6_6.length)
  refine de_eff0 rfl rfl rfl rfl (Yield.weak (yl_ob (ob' := (⟨50, 3, true, true, w6_1, x64.map GLayer.av⟩ : AObj)) (yl_store rfl sh3 rfl rfl rfl rfl rfl (ix_get e54) rfl rfl rfl) (ob_eq (map_setV e64))) (fun _ h => h) (fun _ _ => trivial)) (by rintro _ _ ⟨rfl, rfl⟩; exact trivial) ?_; rintro _ _ ⟨rfl, rfl⟩
  refine de_nil (hK _ ?_)
  refine tc tbk 4 (.mk ?_)
  refine sS ⟨50, 3, true, true, v48, [[int y6_4.Qty, int y9_1, int y6_4.Profit]]⟩ sh3 ?_
  refine tr tbk 2 (.mk ?_)
  refine c_drawE [0, 0, 1, 7, 15] (rl [(1, [9])] []) (rl [(3, [])] [9]) (rl [(3, false)] true) [0, 1, 2, 3, 4] mixed (by kernel_rfl) ?_; intro K hK
  refine eM ?_
  refine eL sh50 ?_
  refine eA ?_
  refine de_eff0 rfl rfl rfl rfl (Yield.weak (yl_ob (ob' := (⟨50, 3, true, true, v4, [[int y6_4.Qty, int y9_1, int y6_4.Profit]]⟩ : AObj)) (yl_store rfl sh50 rfl rfl rfl rfl rfl rfl rfl rfl rfl) rfl) (fun _ h => h) (fun _ _ => trivial)) (by rintro _ _ ⟨rfl, rfl⟩; exact trivial) ?_; rintro _ _ ⟨rfl, rfl⟩
  refine eA ?_
  refine de_nil (hK _ ?_)
  obtain ⟨p65, h0⟩ := asrt_e h0
  obtain rfl := nxt_e h0
  refine wR hret (rT (rC sh50 (rT .nil))) ?_
  exact CvL.tup (.cons (cv_win (l := x64) rfl rfl rfl rfl (CvLL.refl _) (by first | omega | (simp only [List.length_set]; omega)) rfl) (.cons (.refl _) (.cons (.refl _) .nil)))
  replace h0 := ct h0
  refine tc tbk 2 (.mk ?_)
  refine c_drawE [0, 0, 0, 1, 11, 31] (rl [(1, [9])] []) (rl [(4, [])] [9]) (rl [(4, false)] true) [0, 1, 2, 3, 4, 5] mixed (by kernel_rfl) ?_; intro K hK
  refine eM ?_
  refine eL sh50 ?_
  refine eM ?_
  refine eA ?_
  refine de_eff0 rfl rfl rfl rfl (Yield.weak (yl_ob (ob' := (⟨50, 3, true, true, v4, [[int y6_4.Qty, int y6_4.Value, int y6_4.Profit]]⟩ : AObj)) (yl_store rfl sh50 rfl rfl rfl rfl rfl rfl rfl rfl rfl) rfl) (fun _ h => h) (fun _ _ => trivial)) (by rintro _ _ ⟨rfl, rfl⟩; exact trivial) ?_; rintro _ _ ⟨rfl, rfl⟩
  refine eA ?_
  refine de_nil (hK _ ?_)
  obtain ⟨p66, h0⟩ := asrt_e h0
  obtain rfl := nxt_e h0
  refine wR hret (rT (rC sh50 (rT .nil))) ?_
  exact CvL.tup (.cons (cv_win (l := y6_6) rfl rfl rfl rfl (CvLL.refl _) (by first | omega | (simp only [List.length_set]; omega)) rfl) (.cons (.refl _) (.cons (.refl _) .nil)))
  replace h0 := ct h0
  refine tc tbk 4 (.mk ?_)
  obtain ⟨p67, h0⟩ := asrt_e h0
  refine rse rfl rfl rfl (yl_call rfl rfl (.cons rfl .nil) cal59 (pc_cv (clone59_c (id := 2) (l := a1) rfl p67) (.cons (.refl _) .nil))) ?_; rintro _ _ ⟨v68, rfl, rfl⟩
  refine tr tbk 2 (.mk ?_)
  refine sS ⟨50, 3, true, true, v4, [[int 0, int 0, int 0]]⟩ sh50 ?_
  refine tr tbk 2 (.mk ?_)
  obtain rfl := nxt_e h0
  refine wR hret (rT (rC sh50 (rT .nil))) ?_
  exact CvL.tup (.cons (cv_lst rfl rfl rfl rfl rfl (Eq.symm rfl)) (.cons (.refl _) (.cons (.refl _) .nil)))
def d_pavg_Free_L0 (a1 : GPool) : Nat → Int → Int → Option (Int)
  | 0, _, _ => none
  | n + 1, y0_1, y0_2 =>
    bnd (decide (y0_2 < (a1.Layers.length : Int))) fun x4 =>
    cond x4 ((ix a1.Layers y0_2).bind fun x5 =>
    bnd (w64 (y0_1 + x5.Qty)) fun x7 =>
    bnd (w64 (y0_2 + 1)) fun x8 =>
    d_pavg_Free_L0 a1 n (x7 : Int) (x8 : Int)) (some (y0_1 : Int))
def d_pavg_Free_L1 (a1 : GPool) : Nat → Int → Int → Option (Int)
  | 0, _, _ => none
  | n + 1, y2_1, y2_2 =>
    bnd (decide (y2_2 < 3)) fun x10 =>
    cond x10 ((ix ([a1.Pend.a0, a1.Pend.a1, a1.Pend.a2] : List Int) y2_2).bind fun x11 =>
    bnd (w64 (y2_1 - x11)) fun x12 =>
    bnd (w64 (y2_2 + 1)) fun x13 =>
    d_pavg_Free_L1 a1 n (x12 : Int) (x13 : Int)) (some (y2_1 : Int))
def d_pavg_Free (n : Nat) (a1 : GPool) : Option (Int) :=
(show Option (Int) from
d_pavg_Free_L0 a1 n (0 : Int) (0 : Int)).bind <| fun y1_1 =>
(show Option (Int) from
d_pavg_Free_L1 a1 n (y1_1 : Int) (0 : Int)).bind <| fun y3_1 =>
some ((y3_1 : Int))
theorem d_pavg_Free_c {n : Nat} {a1 : GPool} {r : Int} (h0 : d_pavg_Free n a1 = some r) : PP Tryz.prog 149 [.agg (GPool.av a1)] (fun y => y = int r) := by
  unfold d_pavg_Free at h0
  refine pp_of_pc (R0 := fun y H => Cv (frzH H) y (int r)) ?_ (fun y H hc => ⟨_, rfl, pvI r, hc⟩)
  refine pcw (c := _) Tryz.func149 rfl rfl ?_; intro Q hret hnorm
  refine tc tbk 2 (.mk ?_)
  refine sB 1 fun v2 => ?_
  refine tr tbk 11 (.mk ?_)
  refine sY (yv_len_sl rfl Tryz.underlying39 rfl (lst_len _)) ?_
  refine tr tbk 2 (.mk ?_)
  refine jn h0 [1, 2] [1] (fun (a : Int) (k : Unit) => [(3, int a)]) (fun a k => []) ⟨fun j3 h1 => ?_, ?_⟩
  refine tc tbk 1 (.mk ?_)
  refine lp (fun n (a : Int × Int) => d_pavg_Free_L0 a1 n a.1 a.2) ((0 : Int), (0 : Int)) () h1 [1, 2, 9, 10] [1] (fun (a : Int × Int) (k : Unit) => [(3, int a.1), (11, int a.2)]) (fun a k => []) (fun _ => rfl) ⟨leA, ?_⟩
  rintro n ⟨y0_1, y0_2⟩ _ hm h1
  replace h1 : d_pavg_Free_L0 a1 (n + 1) y0_1 y0_2 = some _ := h1
  rw [d_pavg_Free_L0] at h1
  refine tc tbk 2 (.mk ?_)
  refine nb tbk h1 fun x4 h1 => ?_
  refine tr tbk 2 (.mk ?_)
  cases x4
  replace h1 := cf h1
  refine tc tbk 2 (.mk ?_)
  exact lf h1 () leA
  replace h1 := ct h1
  refine tc tbk 6 (.mk ?_)
  obtain ⟨x5, e5, h1⟩ := bind_e h1
  refine sY (yv_ixT rfl Tryz.underlying39 sh50 rfl rfl e5) ?_
  refine tr tbk 1 (.mk ?_)
  refine sA 2 z50 fun v6 => ?_
  refine sS ⟨50, 3, true, true, v6, [[int x5.Qty, int x5.Value, int x5.Profit]]⟩ sh50 ?_
  refine tr tbk 5 (.mk ?_)
  refine ni tbk h1 fun x7 h1 => ?_
  refine tr tbk 4 (.mk ?_)
  refine ni tbk h1 fun x8 h1 => ?_
  refine tr tbk 2 (.mk ?_)
  exact bk (x7, x8) () h1 leA
  rintro y1_1 _ h0
  refine tc tbk 7 (.mk ?_)
  refine jn h0 [2] [] (fun (a : Int) (k : Unit) => [(3, int a)]) (fun a k => []) ⟨fun j9 h1 => ?_, ?_⟩
  refine tc tbk 1 (.mk ?_)
  refine lp (fun n (a : Int × Int) => d_pavg_Free_L1 a1 n a.1 a.2) ((y1_1 : Int), (0 : Int)) () h1 [2, 21] [] (fun (a : Int × Int) (k : Unit) => [(3, int a.1), (22, int a.2)]) (fun a k => []) (fun _ => rfl) ⟨leA, ?_⟩
  rintro n ⟨y2_1, y2_2⟩ _ hm h1
  replace h1 : d_pavg_Free_L1 a1 (n + 1) y2_1 y2_2 = some _ := h1
  rw [d_pavg_Free_L1] at h1
  refine tc tbk 2 (.mk ?_)
  refine nb tbk h1 fun x10 h1 => ?_
  refine tr tbk 2 (.mk ?_)
  cases x10
  replace h1 := cf h1
  refine tc tbk 2 (.mk ?_)
  exact lf h1 () leA
  replace h1 := ct h1
  refine tc tbk 6 (.mk ?_)
  obtain ⟨x11, e11, h1⟩ := bind_e h1
  refine sY (yv_indexAT (g := fI) (l := ([a1.Pend.a0, a1.Pend.a1, a1.Pend.a2] : List Int)) (v := x11) (w := int x11) rfl Tryz.underlying40 sh3 rfl rfl rfl e11 (fun _ => rfl) hw1) ?_
  refine tr tbk 5 (.mk ?_)
  refine ni tbk h1 fun x12 h1 => ?_
  refine tr tbk 4 (.mk ?_)
  refine ni tbk h1 fun x13 h1 => ?_
  refine tr tbk 2 (.mk ?_)
  exact bk (x12, x13) () h1 leA
  rintro y3_1 _ h0
  refine tc tbk 5 (.mk ?_)
  obtain rfl := nxt_e h0
  refine wR hret (rT .nil) ?_
  exact .refl _
def d_pavg_own (a1 : GPool) (a2 : List GLayer) : Option (GPool) :=
asrt (a2.length ≤ 68719476736) <|
some (((⟨a2, a1.Pend⟩ : GPool) : GPool))
theorem d_pavg_own_c {a1 : GPool} {a2 : List GLayer} {r : GPool} (h0 : d_pavg_own a1 a2 = some r) : PP Tryz.prog 147 [.agg (GPool.av a1), lst 3 GLayer.av a2] (fun y => y = .agg (GPool.av r)) := by
  unfold d_pavg_own at h0
  refine pp_of_pc (R0 := fun y H => Cv (frzH H) y (.agg (GPool.av r))) ?_ (fun y H hc => ⟨_, rfl, (fun (a : GPool) => PV.agg (GPool.pvc a)) r, hc⟩)
  refine pcw (c := _) Tryz.func147 rfl rfl ?_; intro Q hret hnorm
  refine tc tbk 2 (.mk ?_)
  refine sB 1 fun v3 => ?_
  refine sA 2 z42 fun v4 => ?_
  refine tr tbk 4 (.mk ?_)
  obtain ⟨p5, h0⟩ := asrt_e h0
  refine rse rfl rfl rfl (yl_app0T (g := GLayer.av) (m := a2) 3 rfl Tryz.underlying39 bz50 by50 rfl rfl rfl rfl (.refl _) (fun _ => rfl) p5) ?_; rintro _ _ ⟨v6, rfl, rfl⟩
  refine tr tbk 1 (.mk ?_)
  refine sS ⟨42, 4, true, true, v3, [[.sl 3 v6 0 a2.length, int a1.Pend.a0, int a1.Pend.a1, int a1.Pend.a2]]⟩ sh39 ?_
  refine tr tbk 4 (.mk ?_)
  refine sS ⟨42, 4, true, true, v4, [[.sl 3 v6 0 a2.length, int a1.Pend.a0, int a1.Pend.a1, int a1.Pend.a2]]⟩ sh42 ?_
  refine tr tbk 1 (.mk ?_)
  obtain rfl := nxt_e h0
  refine wR hret (rC sh42 .nil) ?_
  exact (CvL.agg (.cons (cv_lst rfl rfl rfl rfl rfl (Eq.symm rfl)) (.cons (.refl _) (.cons (.refl _) (.cons (.refl _) .nil)))))
def d_fifo_Out_L0 : Nat → Nat → Nat → Int → (List GLayer) → GLayer → Option (Nat × Nat × (List GLayer) × GLayer)
  | 0, _, _, _, _, _ => none
  | n + 1, y0_1, y0_2, y0_3, y0_4, y0_5 =>
    (show Option (Bool) from
    bnd (decide ((y0_2 : Int) > 0)) fun x12 =>
    cond x12 (bnd (decide (y0_3 > 0)) fun x13 =>
    some (x13 : Bool)) (some (false : Bool))).bind <| fun y1_1 =>
    cond y1_1 (asrt ((0 : Int) ≤ 0 ∧ 0 < (y0_2 : Int)) <|
    (ix y0_4 (((y0_1 : Nat) : Int) + 0)).bind fun x15 =>
    bnd (decide (x15.Qty > y0_3)) fun x17 =>
    (show Option (Nat × Nat × (List GLayer) × GLayer) from
    cond x17 ((d_money_Part n x15.Value y0_3 x15.Qty).bind fun x21 =>
    (d_money_Part n x15.Profit y0_3 x15.Qty).bind fun x22 =>
    asrt ((0 : Int) ≤ 0 ∧ 0 < (y0_2 : Int)) <|
    bnd (w64 (x15.Qty - y0_3)) fun x24 =>
    asrt ((0 : Int) ≤ 0 ∧ 0 < (y0_2 : Int)) <|
    bnd (w64 (x15.Value - x21)) fun x26 =>
    asrt ((0 : Int) ≤ 0 ∧ 0 < (y0_2 : Int)) <|
    bnd (w64 (x15.Profit - x22)) fun x28 =>
    asrt ((0 : Int) ≤ 0 ∧ 0 < (y0_2 : Int)) <|
    bnd (y0_4.set (Int.toNat (((y0_1 : Nat) : Int) + 0)) ((⟨x24, x15.Value, x15.Profit⟩ : GLayer) : GLayer)) fun x30 =>
    asrt ((0 : Int) ≤ 0 ∧ 0 < (y0_2 : Int)) <|
    bnd (x30.set (Int.toNat (((y0_1 : Nat) : Int) + 0)) ((⟨((⟨x24, x15.Value, x15.Profit⟩ : GLayer) : GLayer).Qty, x26, ((⟨x24, x15.Value, x15.Profit⟩ : GLayer) : GLayer).Profit⟩ : GLayer) : GLayer)) fun x32 =>
    asrt ((0 : Int) ≤ 0 ∧ 0 < (y0_2 : Int)) <|
    bnd (x32.set (Int.toNat (((y0_1 : Nat) : Int) + 0)) ((⟨((⟨((⟨x24, x15.Value, x15.Profit⟩ : GLayer) : GLayer).Qty, x26, ((⟨x24, x15.Value, x15.Profit⟩ : GLayer) : GLayer).Profit⟩ : GLayer) : GLayer).Qty, ((⟨((⟨x24, x15.Value, x15.Profit⟩ : GLayer) : GLayer).Qty, x26, ((⟨x24, x15.Value, x15.Profit⟩ : GLayer) : GLayer).Profit⟩ : GLayer) : GLayer).Value, x28⟩ : GLayer) : GLayer)) fun x34 =>
    some ((y0_1 : Nat), (y0_2 : Nat), (x34 : List GLayer), ((⟨y0_3, x21, x22⟩ : GLayer) : GLayer))) (asrt ((0 : Int) ≤ 1 ∧ 1 ≤ (y0_2 : Int) ∧ (y0_2 : Int) ≤ (y0_2 : Int) ∧ 1 < (y0_2 + 1 : Int)) <|
    bnd (if (Int.toNat (y0_2 : Int)) = 1 then y0_1 else y0_1 + 1) fun x20 =>
    some ((x20 : Nat), (((Int.toNat (y0_2 : Int)) - 1) : Nat), (y0_4 : List GLayer), (x15 : GLayer)))).bind <| p2 fun (y2_1 : Nat) (q0 : Nat × (List GLayer) × GLayer) => (p2 fun (y2_2 : Nat) (q1 : (List GLayer) × GLayer) => (p2 fun (y2_3 : List GLayer) (y2_4 : GLayer) =>
    bnd (w64 (y0_5.Qty + y2_4.Qty)) fun x35 =>
    bnd (w64 (y0_5.Value + y2_4.Value)) fun x36 =>
    bnd (w64 (y0_5.Profit + y2_4.Profit)) fun x37 =>
    bnd (w64 (y0_3 - y2_4.Qty)) fun x38 =>
    d_fifo_Out_L0 n (y2_1 : Nat) (y2_2 : Nat) (x38 : Int) (y2_3 : List GLayer) ((⟨x35, x36, x37⟩ : GLayer) : GLayer)) q1) q0) (some ((y0_1 : Nat), (y0_2 : Nat), (y0_4 : List GLayer), (y0_5 : GLayer)))
def d_fifo_Out (n : Nat) (a1 : List GLayer) (a2 : Int) : Option ((List GLayer) × GLayer × Int) :=
asrt (a1.length ≤ 68719476736) <|
bnd (decide (a2 < 1)) fun x6 =>
cond x6 (some ((a1 : List GLayer), ((⟨0, 0, 0⟩ : GLayer) : GLayer), (1 : Int))) ((d_fifo_has n a1 a2).bind fun x7 =>
bnd (!x7) fun x8 =>
cond x8 (some ((a1 : List GLayer), ((⟨0, 0, 0⟩ : GLayer) : GLayer), (5 : Int))) ((show Option (Nat × Nat × (List GLayer) × GLayer) from
d_fifo_Out_L0 n (0 : Nat) (a1.length : Nat) (a2 : Int) (a1 : List GLayer) ((⟨0, 0, 0⟩ : GLayer) : GLayer)).bind <| p2 fun (y3_1 : Nat) (q0 : Nat × (List GLayer) × GLayer) => (p2 fun (y3_2 : Nat) (q1 : (List GLayer) × GLayer) => (p2 fun (y3_3 : List GLayer) (y3_4 : GLayer) =>
asrt (y3_1 + y3_2 ≤ y3_3.length) <|
some (((((y3_3).drop y3_1).take y3_2) : List GLayer), (y3_4 : GLayer), (0 : Int))) q1) q0))
theorem d_fifo_Out_c {n : Nat} {a1 : List GLayer} {a2 : Int} {r : (List GLayer) × GLayer × Int} (h0 : d_fifo_Out n a1 a2 = some r) : PP Tryz.prog 268 [lst 3 GLayer.av a1, int a2] (fun y => y = .tup [lst 3 GLayer.av r.1, .agg (GLayer.av r.2.1), int r.2.2]) := by
  unfold d_fifo_Out at h0
  refine pp_of_pc (R0 := fun y H => Cv (frzH H) y (.tup [lst 3 GLayer.av r.1, .agg (GLayer.av r.2.1), int r.2.2])) ?_ (fun y H hc => ⟨_, rfl, .tup (pvl3 ((pvLs GLayer.pvc) (r.1)) ((fun (a : GLayer) => PV.agg (GLayer.pvc a)) (r.2.1)) (pvI (r.2.2))), hc⟩)
  refine pcw (c := _) Tryz.func268 rfl rfl ?_; intro Q hret hnorm
  refine tc tbk 3 (.mk ?_)
  refine sA 1 z50 fun v3 => ?_
  refine tr tbk 5 (.mk ?_)
  obtain ⟨p4, h0⟩ := asrt_e h0
  refine rse rfl rfl rfl (yl_call rfl rfl (.cons rfl .nil) cal59 (pc_cv (clone59_c (id := 2) (l := a1) rfl p4) (.cons (.refl _) .nil))) ?_; rintro _ _ ⟨v5, rfl, rfl⟩
  refine tr tbk 6 (.mk ?_)
  refine nb tbk h0 fun x6 h0 => ?_
  refine tr tbk 1 (.mk ?_)
  cases x6
  replace h0 := cf h0
  refine tc tbk 7 (.mk ?_)
  obtain ⟨x7, e7, h0⟩ := bind_e h0
  refine sY (yv_callT (v := boo x7) rfl rfl (.cons rfl (.cons rfl .nil)) cal269 (.cons (cv_lst rfl rfl rfl rfl rfl (Eq.symm rfl)) (.cons (.refl _) .nil)) (d_fifo_has_c e7) rfl) ?_
  refine nb tbk h0 fun x8 h0 => ?_
  refine tr tbk 1 (.mk ?_)
  cases x8
  replace h0 := cf h0
  refine tc tbk 4 (.mk ?_)
  refine sA 3 z50 fun v9 => ?_
  refine tr tbk 2 (.mk ?_)
  refine jn h0 [4, 5, 6, 7] [1] (fun (a : Nat × Nat × (List GLayer) × GLayer) (k : Unit) => [(0, .sl 2 v5 a.1 a.2.1)]) (fun a k => [(2, ⟨50, 3, true, true, v5, a.2.2.1.map GLayer.av⟩), (3, ⟨50, 3, true, true, v9, [[int a.2.2.2.Qty, int a.2.2.2.Value, int a.2.2.2.Profit]]⟩)]) ⟨fun j10 h1 => ?_, ?_⟩
  refine tc tbk 1 (.mk ?_)
  refine lp (fun n (a : Nat × Nat × Int × (List GLayer) × GLayer) => d_fifo_Out_L0 n a.1 a.2.1 a.2.2.1 a.2.2.2.1 a.2.2.2.2) ((0 : Nat), (a1.length : Nat), (a2 : Int), (a1 : List GLayer), ((⟨0, 0, 0⟩ : GLayer) : GLayer)) () h1 [4, 5, 6, 7] [1] (fun (a : Nat × Nat × Int × (List GLayer) × GLayer) (k : Unit) => [(0, .sl 2 v5 a.1 a.2.1), (1, int a.2.2.1)]) (fun a k => [(2, ⟨50, 3, true, true, v5, a.2.2.2.1.map GLayer.av⟩), (3, ⟨50, 3, true, true, v9, [[int a.2.2.2.2.Qty, int a.2.2.2.2.Value, int a.2.2.2.2.Profit]]⟩)]) (fun _ => rfl) ⟨leA, ?_⟩
  rintro n ⟨y0_1, y0_2, y0_3, y0_4, y0_5⟩ _ hm h1
  replace h1 : d_fifo_Out_L0 (n + 1) y0_1 y0_2 y0_3 y0_4 y0_5 = some _ := h1
  rw [d_fifo_Out_L0] at h1
  refine tc tbk 2 (.mk ?_)
  refine jn h1 [0, 1, 4, 5, 6, 7] [1, 2, 3] (fun (a : Bool) (k : Unit) => [(27, boo a)]) (fun a k => []) ⟨fun j11 h2 => ?_, ?_⟩
  refine tc tbk 2 (.mk ?_)
  refine sY (yv_len_sl rfl Tryz.underlying39 rfl (.sl rfl rfl)) ?_
  refine nb tbk h2 fun x12 h2 => ?_
  refine tr tbk 1 (.mk ?_)
  cases x12
  replace h2 := cf h2
  refine tr tbk 4 (.mk ?_)
  exact lf h2 () leA
  replace h2 := ct h2
  refine tr tbk 1 (.mk ?_)
  refine nb tbk h2 fun x13 h2 => ?_
  refine tr tbk 2 (.mk ?_)
  exact lf h2 () leA
  rintro y1_1 _ h1
  cases y1_1
  replace h1 := cf h1
  refine tc tbk 2 (.mk ?_)
  exact lf h1 () leA
  replace h1 := ct h1
  refine tc tbk 6 (.mk ?_)
  obtain ⟨p14, h1⟩ := asrt_e h1
  obtain ⟨x15, e15, h1⟩ := bind_e h1
  refine sY (yv_ixW rfl Tryz.underlying39 sh50 rfl rfl rfl rfl rfl p14 (List.length_map _) e15) ?_
  refine sY (yv_load rfl sh50 rfl (.pt rfl rfl (ix_get e15)) rfl) ?_
  refine sA 4 z50 fun v16 => ?_
  refine sS ⟨50, 3, true, true, v16, [[int x15.Qty, int x15.Value, int x15.Profit]]⟩ sh50 ?_
  refine tr tbk 7 (.mk ?_)
  refine nb tbk h1 fun x17 h1 => ?_
  refine tr tbk 1 (.mk ?_)
  refine jn h1 [1, 4, 5, 6, 7, 8] [1, 3] (fun (a : Nat × Nat × (List GLayer) × GLayer) (k : Unit) => [(0, .sl 2 v5 a.1 a.2.1)]) (fun a k => [(2, ⟨50, 3, true, true, v5, a.2.2.1.map GLayer.av⟩), (4, ⟨50, 3, true, true, v16, [[int a.2.2.2.Qty, int a.2.2.2.Value, int a.2.2.2.Profit]]⟩)]) ⟨fun j18 h2 => ?_, ?_⟩
  cases x17
  replace h2 := cf h2
  refine tc tbk 4 (.mk ?_)
  refine sY (yv_len_sl rfl Tryz.underlying39 rfl (.sl rfl rfl)) ?_
  refine tr tbk 1 (.mk ?_)
  refine sY (yv_len_sl rfl Tryz.underlying39 rfl (.sl rfl rfl)) ?_
  obtain ⟨p19, h2⟩ := asrt_e h2
  obtain ⟨x20, e20, h2⟩ := bnd_e h2
  refine sY (yv_slO3 (len := y0_2) (i := 1) (j := (Int.toNat (y0_2 : Int))) rfl Tryz.underlying39 sh50 rfl rfl rfl rfl (.yes rfl (by first | omega | (dsimp only; omega) | (dsimp only at *; omega))) (.yes rfl (by first | omega | (dsimp only; omega) | (dsimp only at *; omega))) (.yes rfl (by first | omega | (dsimp only; omega) | (dsimp only at *; omega))) (by first | omega | (dsimp only; omega) | (dsimp only at *; omega)) (by first | omega | (dsimp only; omega) | (dsimp only at *; omega)) e20) ?_
  refine tr tbk 2 (.mk ?_)
  exact lf h2 () leA
  replace h2 := ct h2
  refine tc tbk 2 (.mk ?_)
  refine c_drawE [0, 0, 2, 0, 0, 16, 62, 0, 128, 0, 0, 1024, 4094, 8191, 16383] (rl [(1, [4]), (2, [4]), (4, [4]), (5, [4]), (7, [4]), (8, [4]), (10, [4]), (11, [4])] []) (rl [(14, [])] [4]) (rl [(14, false)] true) [0, 1, 2, 3, 4, 5, 6, 7, 8, 9, 10, 11, 12, 13, 14] mixed (by kernel_rfl) ?_; intro K hK
  refine eM ?_
  refine eF fo50_1 ?_
  refine eL sh3 ?_
  refine eM ?_
  refine eF fo50_0 ?_
  refine eL sh3 ?_
  obtain ⟨x21, e21, h2⟩ := bind_e h2
  refine eP (fun H hH => yv_callP rfl rfl (.cons rfl (.cons rfl (.cons rfl .nil))) cal86 (CvL.refl _) (d_money_Part_c e21)) ?_
  refine eF fo50_2 ?_
  refine eL sh3 ?_
  refine eM ?_
  refine eF fo50_0 ?_
  refine eL sh3 ?_
  obtain ⟨x22, e22, h2⟩ := bind_e h2
  refine eP (fun H hH => yv_callP rfl rfl (.cons rfl (.cons rfl (.cons rfl .nil))) cal86 (CvL.refl _) (d_money_Part_c e22)) ?_
  refine eP (fun H hH => yv_build (cs := [int y0_3, int x21, int x22]) (ps := [(0, _), (1, _), (2, _)]) rfl pl50 z50 rfl (.cons rfl (.cons rfl (.cons rfl .nil))) (by kernel_rfl)) ?_
  refine de_eff0 rfl rfl rfl rfl (Yield.weak (yl_ob (ob' := (⟨50, 3, true, true, v16, [[int y0_3, int x21, int x22]]⟩ : AObj)) (yl_store rfl sh50 rfl rfl rfl rfl rfl rfl rfl rfl rfl) rfl) (fun _ h => h) (fun _ _ => trivial)) (by rintro _ _ ⟨rfl, rfl⟩; exact trivial) ?_; rintro _ _ ⟨rfl, rfl⟩
  refine de_nil (hK _ ?_)
  refine c_drawE [0, 0, 0, 0, 8, 24, 56, 0, 128, 504, 0, 1024, 3072, 7168, 0, 16384, 64512, 0, 131072, 393216, 917504, 0, 2097152, 8257536, 1982457, 18759673, 52314105, 119537659, 253755387, 522190843, 1073741823, 2147483647, 4294967295] (rl [(4, [2]), (5, [2]), (6, [2]), (7, [4]), (8, [4]), (11, [2]), (12, [2]), (13, [2]), (14, [4]), (15, [4]), (18, [2]), (19, [2]), (20, [2]), (21, [4]), (22, [4]), (24, [2]), (25, [2]), (27, [2]), (28, [2]), (30, [2]), (31, [2])] []) (rl [(26, [4]), (29, [4]), (32, [])] [2, 4]) (rl [(26, false), (29, false), (32, false)] true) [0, 1, 2, 3, 4, 5, 6, 7, 8, 9, 10, 11, 12, 13, 14, 15, 16, 17, 18, 19, 20, 21, 22, 23, 24, 25, 26, 27, 28, 29, 30, 31, 32] mixed (by kernel_rfl) ?_; intro K hK
  iterate 4 refine eM ?_
  obtain ⟨p23, h2⟩ := asrt_e h2
  refine de_pure rfl rfl rfl rfl (fun H hH => yv_ixW rfl Tryz.underlying39 sh50 rfl rfl ((hH _ (by decide)).trans rfl) rfl rfl p23 (List.length_map _) e15) ?_
  refine eF fo50_0 (hr := ix_get e15) ?_
  refine eL sh3 (hr := ix_get e15) ?_
  refine eF fo50_0 ?_
  refine eL sh3 ?_
  obtain ⟨x24, e24, h2⟩ := bnd_e h2
  refine eP (fun H hH => yv_sub rfl rfl rfl e24) ?_
  refine eM ?_
  obtain ⟨p25, h2⟩ := asrt_e h2
  refine de_pure rfl rfl rfl rfl (fun H hH => yv_ixW rfl Tryz.underlying39 sh50 rfl rfl ((hH _ (by decide)).trans rfl) rfl rfl p25 (List.length_map _) e15) ?_
  refine eF fo50_1 (hr := ix_get e15) ?_
  refine eL sh3 (hr := ix_get e15) ?_
  refine eF fo50_1 ?_
  refine eL sh3 ?_
  obtain ⟨x26, e26, h2⟩ := bnd_e h2
  refine eP (fun H hH => yv_sub rfl rfl rfl e26) ?_
  refine eM ?_
  obtain ⟨p27, h2⟩ := asrt_e h2
  refine de_pure rfl rfl rfl rfl (fun H hH => yv_ixW rfl Tryz.underlying39 sh50 rfl rfl ((hH _ (by decide)).trans rfl) rfl rfl p27 (List.length_map _) e15) ?_
  refine eF fo50_2 (hr := ix_get e15) ?_
  refine eL sh3 (hr := ix_get e15) ?_
  refine eF fo50_2 ?_
  refine eL sh3 ?_
  obtain ⟨x28, e28, h2⟩ := bnd_e h2
  refine eP (fun H hH => yv_sub rfl rfl rfl e28) ?_
  obtain ⟨p29, h2⟩ := asrt_e h2
  refine de_pure rfl rfl rfl rfl (fun H hH => yv_ixW rfl Tryz.underlying39 sh50 rfl rfl ((hH _ (by decide)).trans rfl) rfl rfl p29 (List.length_map _) e15) ?_
  refine eF fo50_0 (hr := ix_get e15) ?_
  obtain ⟨x30, e30, h2⟩ := bnd_e h2
  have fx30 := ix_set e15 e30; have lx30 := len_setV e30 (rfl : y0_4.length = y0_4.length)
  refine de_eff0 rfl rfl rfl rfl (Yield.weak (yl_ob (ob' := (⟨50, 3, true, true, v5, x30.map GLayer.av⟩ : AObj)) (yl_store rfl sh3 rfl rfl rfl rfl rfl (ix_get e15) rfl rfl rfl) (ob_eq (map_setV e30))) (fun _ h => h) (fun _ _ => trivial)) (by rintro _ _ ⟨rfl, rfl⟩; exact ⟨rfl, trivial⟩) ?_; rintro _ _ ⟨rfl, rfl⟩
  obtain ⟨p31, h2⟩ := asrt_e h2
  refine de_pure rfl rfl rfl rfl (fun H hH => yv_ixW rfl Tryz.underlying39 sh50 rfl rfl ((hH _ (by decide)).trans rfl) rfl rfl p31 (List.length_map _) fx30) ?_
  refine eF fo50_1 (hr := ix_get fx30) ?_
  obtain ⟨x32, e32, h2⟩ := bnd_e h2
  have fx32 := ix_set fx30 e32; have lx32 := len_setV e32 lx30
  refine de_eff0 rfl rfl rfl rfl (Yield.weak (yl_ob (ob' := (⟨50, 3, true, true, v5, x32.map GLayer.av⟩ : AObj)) (yl_store rfl sh3 rfl rfl rfl rfl rfl (ix_get fx30) rfl rfl rfl) (ob_eq (map_setV e32))) (fun _ h => h) (fun _ _ => trivial)) (by rintro _ _ ⟨rfl, rfl⟩; exact ⟨rfl, trivial⟩) ?_; rintro _ _ ⟨rfl, rfl⟩
  obtain ⟨p33, h2⟩ := asrt_e h2
  refine de_pure rfl rfl rfl rfl (fun H hH => yv_ixW rfl Tryz.underlying39 sh50 rfl rfl ((hH _ (by decide)).trans rfl) rfl rfl p33 (List.length_map _) fx32) ?_
  refine eF fo50_2 (hr := ix_get fx32) ?_
  obtain ⟨x34, e34, h2⟩ := bnd_e h2
  have fx34 := ix_set fx32 e34; have lx34 := len_setV e34 lx32
  refine de_eff0 rfl rfl rfl rfl (Yield.weak (yl_ob (ob' := (⟨50, 3, true, true, v5, x34.map GLayer.av⟩ : AObj)) (yl_store rfl sh3 rfl rfl rfl rfl rfl (ix_get fx32) rfl rfl rfl) (ob_eq (map_setV e34))) (fun _ h => h) (fun _ _ => trivial)) (by rintro _ _ ⟨rfl, rfl⟩; exact trivial) ?_; rintro _ _ ⟨rfl, rfl⟩
  refine de_nil (hK _ ?_)
  exact lf h2 () leA
  rintro ⟨y2_1, y2_2, y2_3, y2_4⟩ _ h1
  replace h1 := p2_e h1
  replace h1 := p2_e h1
  replace h1 := p2_e h1
  refine tc tbk 1 (.mk ?_)
  refine c_drawE [0, 1, 0, 4, 15, 0, 32, 0, 128, 480, 0, 1024, 0, 4096, 15360, 3199, 35967, 102399, 233471, 524287, 1048575] (rl [(0, [3]), (1, [3]), (2, [4]), (3, [4]), (5, [3]), (6, [3]), (7, [4]), (8, [4]), (10, [3]), (11, [3]), (12, [4]), (13, [4]), (15, [3]), (17, [3]), (19, [3])] []) (rl [(16, [4]), (18, [4]), (20, [])] [3, 4]) (rl [(16, false), (18, false), (20, false)] true) [0, 1, 2, 3, 4, 5, 6, 7, 8, 9, 10, 11, 12, 13, 14, 15, 16, 17, 18, 19, 20] mixed (by kernel_rfl) ?_; intro K hK
  refine eF fo50_0 ?_
  refine eL sh3 ?_
  refine eF fo50_0 ?_
  refine eL sh3 ?_
  obtain ⟨x35, e35, h1⟩ := bnd_e h1
  refine eP (fun H hH => yv_add rfl rfl rfl e35) ?_
  refine eF fo50_1 ?_
  refine eL sh3 ?_
  refine eF fo50_1 ?_
  refine eL sh3 ?_
  obtain ⟨x36, e36, h1⟩ := bnd_e h1
  refine eP (fun H hH => yv_add rfl rfl rfl e36) ?_
  refine eF fo50_2 ?_
  refine eL sh3 ?_
  refine eF fo50_2 ?_
  refine eL sh3 ?_
  obtain ⟨x37, e37, h1⟩ := bnd_e h1
  refine eP (fun H hH => yv_add rfl rfl rfl e37) ?_
  refine eF fo50_0 ?_
  refine de_eff0 rfl rfl rfl rfl (Yield.weak (yl_ob (ob' := (⟨50, 3, true, true, v9, [[int x35, int y0_5.Value, int y0_5.Profit]]⟩ : AObj)) (yl_store rfl sh3 rfl rfl rfl rfl rfl rfl rfl rfl rfl) rfl) (fun _ h => h) (fun _ _ => trivial)) (by rintro _ _ ⟨rfl, rfl⟩; exact ⟨rfl, trivial⟩) ?_; rintro _ _ ⟨rfl, rfl⟩
  refine eF fo50_1 ?_
  refine de_eff0 rfl rfl rfl rfl (Yield.weak (yl_ob (ob' := (⟨50, 3, true, true, v9, [[int x35, int x36, int y0_5.Profit]]⟩ : AObj)) (yl_store rfl sh3 rfl rfl rfl rfl rfl rfl rfl rfl rfl) rfl) (fun _ h => h) (fun _ _ => trivial)) (by rintro _ _ ⟨rfl, rfl⟩; exact ⟨rfl, trivial⟩) ?_; rintro _ _ ⟨rfl, rfl⟩
  refine eF fo50_2 ?_
  refine de_eff0 rfl rfl rfl rfl (Yield.weak (yl_ob (ob' := (⟨50, 3, true, true, v9, [[int x35, int x36, int x37]]⟩ : AObj)) (yl_store rfl sh3 rfl rfl rfl rfl rfl rfl rfl rfl rfl) rfl) (fun _ h => h) (fun _ _ => trivial)) (by rintro _ _ ⟨rfl, rfl⟩; exact trivial) ?_; rintro _ _ ⟨rfl, rfl⟩
  refine de_nil (hK _ ?_)
  refine tc tbk 4 (.mk ?_)
  refine ni tbk h1 fun x38 h1 => ?_
  refine tr tbk 3 (.mk ?_)
  exact bk (y2_1, y2_2, x38, y2_3, (⟨x35, x36, x37⟩ : GLayer)) () h1 leA
  rintro ⟨y3_1, y3_2, y3_3, y3_4⟩ _ h0
  replace h0 := p2_e h0
  replace h0 := p2_e h0
  replace h0 := p2_e h0
  refine tc tbk 1 (.mk ?_)
  refine c_drawE [0, 0, 1, 7, 15] (rl [(1, [3])] []) (rl [(3, [])] [3]) (rl [(3, false)] true) [0, 1, 2, 3, 4] mixed (by kernel_rfl) ?_; intro K hK
  refine eM ?_
  refine eL sh50 ?_
  refine eA ?_
  refine de_eff0 rfl rfl rfl rfl (Yield.weak (yl_ob (ob' := (⟨50, 3, true, true, v3, [[int y3_4.Qty, int y3_4.Value, int y3_4.Profit]]⟩ : AObj)) (yl_store rfl sh50 rfl rfl rfl rfl rfl rfl rfl rfl rfl) rfl) (fun _ h => h) (fun _ _ => trivial)) (by rintro _ _ ⟨rfl, rfl⟩; exact trivial) ?_; rintro _ _ ⟨rfl, rfl⟩
  refine eA ?_
  refine de_nil (hK _ ?_)
  obtain ⟨p39, h0⟩ := asrt_e h0
  obtain rfl := nxt_e h0
  refine wR hret (rT (rC sh50 (rT .nil))) ?_
  exact CvL.tup (.cons (cv_win (l := y3_3) rfl rfl rfl rfl (CvLL.refl _) (by first | omega | (simp only [List.length_set]; omega)) rfl) (.cons (.refl _) (.cons (.refl _) .nil)))
  replace h0 := ct h0
  refine tc tbk 6 (.mk ?_)
  refine sS ⟨50, 3, true, true, v3, [[int 0, int 0, int 0]]⟩ sh50 ?_
  refine tr tbk 2 (.mk ?_)
  obtain rfl := nxt_e h0
  refine wR hret (rT (rC sh50 (rT .nil))) ?_
  exact CvL.tup (.cons (cv_lst rfl rfl rfl rfl rfl (Eq.symm rfl)) (.cons (.refl _) (.cons (.refl _) .nil)))
  replace h0 := ct h0
  refine tc tbk 6 (.mk ?_)
  refine sS ⟨50, 3, true, true, v3, [[int 0, int 0, int 0]]⟩ sh50 ?_
  refine tr tbk 2 (.mk ?_)
  obtain rfl := nxt_e h0
  refine wR hret (rT (rC sh50 (rT .nil))) ?_
  exact CvL.tup (.cons (cv_lst rfl rfl rfl rfl rfl (Eq.symm rfl)) (.cons (.refl _) (.cons (.refl _) .nil)))
def d_mavg_Out (n : Nat) (a1 : List GLayer) (a2 : Int) : Option ((List GLayer) × GLayer × Int) :=
(show Option ((Unit)) from
some ()).bind <| fun _ =>
(d_fifo_Out n a1 a2).bind fun x6 =>
some ((x6.1 : List GLayer), (x6.2.1 : GLayer), (x6.2.2 : Int))
theorem d_mavg_Out_c {n : Nat} {a1 : List GLayer} {a2 : Int} {r : (List GLayer) × GLayer × Int} (h0 : d_mavg_Out n a1 a2 = some r) : PP Tryz.prog 273 [lst 3 GLayer.av a1, int a2] (fun y => y = .tup [lst 3 GLayer.av r.1, .agg (GLayer.av r.2.1), int r.2.2]) := by
  unfold d_mavg_Out at h0
  refine pp_of_pc (R0 := fun y H => Cv (frzH H) y (.tup [lst 3 GLayer.av r.1, .agg (GLayer.av r.2.1), int r.2.2])) ?_ (fun y H hc => ⟨_, rfl, .tup (pvl3 ((pvLs GLayer.pvc) (r.1)) ((fun (a : GLayer) => PV.agg (GLayer.pvc a)) (r.2.1)) (pvI (r.2.2))), hc⟩)
  refine pcw (c := _) Tryz.func273 rfl rfl ?_; intro Q hret hnorm
  refine tc tbk 3 (.mk ?_)
  refine sA 1 z50 fun v3 => ?_
  refine tr tbk 4 (.mk ?_)
  obtain ⟨j4, h1, h0⟩ := bind_e h0
  refine rse (Out := fun y H' => (∃ (a : Unit) (k : Unit), a = j4 ∧ y = .agg [.fn (.func 267) [] [], .fn (.func 268) [] [], .fn (.func 99) [] []] ∧ H' = hk [(1, ⟨50, 3, true, true, v3, [[int 0, int 0, int 0]]⟩)])) rfl rfl rfl (yl_call rfl rfl .nil cal274 ?_) ?_
  refine pcw (c := _) Tryz.func274 rfl rfl ?_; intro Q hret hnorm
  refine tc tbk 2 (.mk ?_)
  refine sA 2 z277 fun v5 => ?_
  refine tr tbk 4 (.mk ?_)
  refine sS ⟨277, 3, true, true, v5, [[.fn (.func 267) [] [], .fn (.func 268) [] [], .fn (.func 99) [] []]]⟩ sh277 ?_
  refine tr tbk 1 (.mk ?_)
  obtain rfl := nxt_e h1
  refine w_ret (hret _ _ (hk [(1, ⟨50, 3, true, true, v3, [[int 0, int 0, int 0]]⟩)]) (.cell rfl (.pt rfl rfl rfl) sh277 rfl .nil) (HK.le ⟨rfl, trivial⟩) ?_)
  exact ⟨(), (), rfl, rfl, rfl⟩
  rintro y _ ⟨_, _, rfl, hc, rfl⟩
  subst hc
  refine tr tbk 3 (.mk ?_)
  obtain ⟨x6, e6, h0⟩ := bind_e h0
  refine sC cal268 (d_fifo_Out_c e6) ?_
  refine tr tbk 4 (.mk ?_)
  refine sS ⟨50, 3, true, true, v3, [[int x6.2.1.Qty, int x6.2.1.Value, int x6.2.1.Profit]]⟩ sh50 ?_
  refine tr tbk 2 (.mk ?_)
  obtain rfl := nxt_e h0
  refine wR hret (rT (rC sh50 (rT .nil))) ?_
  exact .refl _
def d_pavg_Out (n : Nat) (a1 : GPool) (a2 : Int) : Option (GPool × GLayer × Int) :=
bnd (decide (a2 < 1)) fun x6 =>
cond x6 ((d_pavg_own a1 a1.Layers).bind fun x13 =>
some ((x13 : GPool), ((⟨0, 0, 0⟩ : GLayer) : GLayer), (1 : Int))) ((d_pavg_Free n a1).bind fun x7 =>
bnd (decide (a2 > x7)) fun x8 =>
cond x8 ((d_pavg_own a1 a1.Layers).bind fun x12 =>
some ((x12 : GPool), ((⟨0, 0, 0⟩ : GLayer) : GLayer), (5 : Int))) ((d_mavg_Out n a1.Layers a2).bind fun x9 =>
(d_pavg_own a1 x9.1).bind fun x11 =>
some ((x11 : GPool), (x9.2.1 : GLayer), (x9.2.2 : Int))))
theorem d_pavg_Out_c {n : Nat} {a1 : GPool} {a2 : Int} {r : GPool × GLayer × Int} (h0 : d_pavg_Out n a1 a2 = some r) : PP Tryz.prog 278 [.agg (GPool.av a1), int a2] (fun y => y = .tup [.agg (GPool.av r.1), .agg (GLayer.av r.2.1), int r.2.2]) := by
  unfold d_pavg_Out at h0
  refine pp_of_pc (R0 := fun y H => Cv (frzH H) y (.tup [.agg (GPool.av r.1), .agg (GLayer.av r.2.1), int r.2.2])) ?_ (fun y H hc => ⟨_, rfl, .tup (pvl3 ((fun (a : GPool) => PV.agg (GPool.pvc a)) (r.1)) ((fun (a : GLayer) => PV.agg (GLayer.pvc a)) (r.2.1)) (pvI (r.2.2))), hc⟩)
  refine pcw (c := _) Tryz.func278 rfl rfl ?_; intro Q hret hnorm
  refine tc tbk 2 (.mk ?_)
  refine sB 1 fun v3 => ?_
  refine sA 2 z42 fun v4 => ?_
  refine sA 3 z50 fun v5 => ?_
  refine tr tbk 7 (.mk ?_)
  refine nb tbk h0 fun x6 h0 => ?_
  refine tr tbk 2 (.mk ?_)
  cases x6
  replace h0 := cf h0
  refine tc tbk 5 (.mk ?_)
  obtain ⟨x7, e7, h0⟩ := bind_e h0
  refine sC cal149 (d_pavg_Free_c e7) ?_
  refine nb tbk h0 fun x8 h0 => ?_
  refine tr tbk 2 (.mk ?_)
  cases x8
  replace h0 := cf h0
  refine tc tbk 8 (.mk ?_)
  obtain ⟨x9, e9, h0⟩ := bind_e h0
  refine sC cal273 (d_mavg_Out_c e9) ?_
  refine tr tbk 4 (.mk ?_)
  refine sA 4 z50 fun v10 => ?_
  refine tr tbk 1 (.mk ?_)
  refine sS ⟨50, 3, true, true, v10, [[int x9.2.1.Qty, int x9.2.1.Value, int x9.2.1.Profit]]⟩ sh50 ?_
  refine tr tbk 3 (.mk ?_)
  refine c_drawE [0, 0, 3, 0, 0, 7, 47, 127] (rl [(0, [1]), (3, [4])] []) (rl [(5, [4]), (6, [])] [1, 4]) (rl [(5, false), (6, false)] true) [0, 1, 2, 3, 4, 5, 6, 7] mixed (by kernel_rfl) ?_; intro K hK
  refine eL sh42 ?_
  refine eM ?_
  obtain ⟨x11, e11, h0⟩ := bind_e h0
  refine eP (fun H hH => yv_callP rfl rfl (.cons rfl (.cons rfl .nil)) cal147 (CvL.refl _) (d_pavg_own_c e11)) ?_
  refine eL sh50 ?_
  refine eM ?_
  refine de_eff0 rfl rfl rfl rfl (Yield.weak (yl_ob (ob' := (⟨42, 4, true, true, v4, [[lst 3 GLayer.av x11.Layers, int x11.Pend.a0, int x11.Pend.a1, int x11.Pend.a2]]⟩ : AObj)) (yl_store rfl sh42 rfl rfl rfl rfl rfl rfl rfl rfl rfl) rfl) (fun _ h => h) (fun _ _ => trivial)) (by rintro _ _ ⟨rfl, rfl⟩; exact ⟨rfl, trivial⟩) ?_; rintro _ _ ⟨rfl, rfl⟩
  refine de_eff0 rfl rfl rfl rfl (Yield.weak (yl_ob (ob' := (⟨50, 3, true, true, v5, [[int x9.2.1.Qty, int x9.2.1.Value, int x9.2.1.Profit]]⟩ : AObj)) (yl_store rfl sh50 rfl rfl rfl rfl rfl rfl rfl rfl rfl) rfl) (fun _ h => h) (fun _ _ => trivial)) (by rintro _ _ ⟨rfl, rfl⟩; exact trivial) ?_; rintro _ _ ⟨rfl, rfl⟩
  refine eA ?_
  refine de_nil (hK _ ?_)
  obtain rfl := nxt_e h0
  refine wR hret (rC sh42 (rC sh50 (rT .nil))) ?_
  exact .refl _
  replace h0 := ct h0
  refine tc tbk 6 (.mk ?_)
  obtain ⟨x12, e12, h0⟩ := bind_e h0
  refine sC cal147 (d_pavg_own_c e12) ?_
  refine tr tbk 1 (.mk ?_)
  refine sS ⟨42, 4, true, true, v4, [[lst 3 GLayer.av x12.Layers, int x12.Pend.a0, int x12.Pend.a1, int x12.Pend.a2]]⟩ sh42 ?_
  refine sS ⟨50, 3, true, true, v5, [[int 0, int 0, int 0]]⟩ sh50 ?_
  refine tr tbk 2 (.mk ?_)
  obtain rfl := nxt_e h0
  refine wR hret (rC sh42 (rC sh50 (rT .nil))) ?_
  exact .refl _
  replace h0 := ct h0
  refine tc tbk 6 (.mk ?_)
  obtain ⟨x13, e13, h0⟩ := bind_e h0
  refine sC cal147 (d_pavg_own_c e13) ?_
  refine tr tbk 1 (.mk ?_)
  refine sS ⟨42, 4, true, true, v4, [[lst 3 GLayer.av x13.Layers, int x13.Pend.a0, int x13.Pend.a1, int x13.Pend.a2]]⟩ sh42 ?_
  refine sS ⟨50, 3, true, true, v5, [[int 0, int 0, int 0]]⟩ sh50 ?_
  refine tr tbk 2 (.mk ?_)
  obtain rfl := nxt_e h0
  refine wR hret (rC sh42 (rC sh50 (rT .nil))) ?_
  exact .refl _
def d_pavg_is (a1 : Int) : Option (Bool) :=
(show Option (Bool) from
bnd (decide (a1 ≥ 0)) fun x3 =>
cond x3 (bnd (decide (a1 < 3)) fun x4 =>
some (x4 : Bool)) (some (false : Bool))).bind <| fun y0_1 =>
some ((y0_1 : Bool))
theorem d_pavg_is_c {a1 : Int} {r : Bool} (h0 : d_pavg_is a1 = some r) : PP Tryz.prog 148 [int a1] (fun y => y = boo r) := by
  unfold d_pavg_is at h0
  refine pp_of_pc (R0 := fun y H => Cv (frzH H) y (boo r)) ?_ (fun y H hc => ⟨_, rfl, pvB r, hc⟩)
  refine pcw (c := _) Tryz.func148 rfl rfl ?_; intro Q hret hnorm
  refine tc tbk 5 (.mk ?_)
  refine jn h0 [] [] (fun (a : Bool) (k : Unit) => [(2, boo a)]) (fun a k => []) ⟨fun j2 h1 => ?_, ?_⟩
  refine tc tbk 2 (.mk ?_)
  refine nb tbk h1 fun x3 h1 => ?_
  refine tr tbk 1 (.mk ?_)
  cases x3
  replace h1 := cf h1
  refine tr tbk 5 (.mk ?_)
  exact lf h1 () leA
  replace h1 := ct h1
  refine tr tbk 1 (.mk ?_)
  refine nb tbk h1 fun x4 h1 => ?_
  refine tr tbk 3 (.mk ?_)
  exact lf h1 () leA
  rintro y0_1 _ h0
  obtain rfl := nxt_e h0
  refine wR hret (rT .nil) ?_
  exact .refl _
def d_pavg_Wait (n : Nat) (a1 : GPool) (a2 : Int) (a3 : Int) : Option (GPool × Int) :=
(d_pavg_own a1 a1.Layers).bind fun x6 =>
(show Option (Bool) from
(d_pavg_is a2).bind fun x8 =>
bnd (!x8) fun x9 =>
cond x9 (some (true : Bool)) (bnd (decide (a3 < 1)) fun x10 =>
some (x10 : Bool))).bind <| fun y0_1 =>
cond y0_1 (some ((x6 : GPool), (1 : Int))) ((d_pavg_Free n x6).bind fun x11 =>
bnd (decide (a3 > x11)) fun x12 =>
cond x12 (some ((x6 : GPool), (5 : Int))) (bnd (decide (a2 = 0)) fun x13 =>
cond x13 (bnd (w64 (x6.Pend.a0 + a3)) fun x18 =>
some (((⟨x6.Layers, (⟨x18, x6.Pend.a1, x6.Pend.a2⟩ : A3_Int)⟩ : GPool) : GPool), (0 : Int))) (bnd (decide (a2 = 1)) fun x14 =>
cond x14 (bnd (w64 (x6.Pend.a1 + a3)) fun x17 =>
some (((⟨x6.Layers, (⟨x6.Pend.a0, x17, x6.Pend.a2⟩ : A3_Int)⟩ : GPool) : GPool), (0 : Int))) (asrt (a2 = 2) <|
bnd (w64 (x6.Pend.a2 + a3)) fun x16 =>
some (((⟨x6.Layers, (⟨x6.Pend.a0, x6.Pend.a1, x16⟩ : A3_Int)⟩ : GPool) : GPool), (0 : Int))))))
theorem d_pavg_Wait_c {n : Nat} {a1 : GPool} {a2 : Int} {a3 : Int} {r : GPool × Int} (h0 : d_pavg_Wait n a1 a2 a3 = some r) : PP Tryz.prog 102 [.agg (GPool.av a1), int a2, int a3] (fun y => y = .tup [.agg (GPool.av r.1), int r.2]) := by
  unfold d_pavg_Wait at h0
  refine pp_of_pc (R0 := fun y H => Cv (frzH H) y (.tup [.agg (GPool.av r.1), int r.2])) ?_ (fun y H hc => ⟨_, rfl, .tup (pvl2 ((fun (a : GPool) => PV.agg (GPool.pvc a)) (r.1)) (pvI (r.2))), hc⟩)
  refine pcw (c := _) Tryz.func102 rfl rfl ?_; intro Q hret hnorm
  refine tc tbk 2 (.mk ?_)
  refine sB 1 fun v4 => ?_
  refine sA 2 z42 fun v5 => ?_
  refine tr tbk 7 (.mk ?_)
  obtain ⟨x6, e6, h0⟩ := bind_e h0
  refine sC cal147 (d_pavg_own_c e6) ?_
  refine sS ⟨42, 4, true, true, v4, [[lst 3 GLayer.av x6.Layers, int x6.Pend.a0, int x6.Pend.a1, int x6.Pend.a2]]⟩ sh42 ?_
  refine tr tbk 4 (.mk ?_)
  refine jn h0 [1, 2, 3, 6, 7] [1, 2] (fun (a : Bool) (k : Unit) => [(12, boo a)]) (fun a k => []) ⟨fun j7 h1 => ?_, ?_⟩
  refine tc tbk 2 (.mk ?_)
  obtain ⟨x8, e8, h1⟩ := bind_e h1
  refine sC cal148 (d_pavg_is_c e8) ?_
  refine nb tbk h1 fun x9 h1 => ?_
  refine tr tbk 1 (.mk ?_)
  cases x9
  replace h1 := cf h1
  refine tr tbk 1 (.mk ?_)
  refine nb tbk h1 fun x10 h1 => ?_
  refine tr tbk 3 (.mk ?_)
  exact lf h1 () leA
  replace h1 := ct h1
  refine tr tbk 5 (.mk ?_)
  exact lf h1 () leA
  rintro y0_1 _ h0
  cases y0_1
  replace h0 := cf h0
  refine tc tbk 5 (.mk ?_)
  obtain ⟨x11, e11, h0⟩ := bind_e h0
  refine sC cal149 (d_pavg_Free_c e11) ?_
  refine nb tbk h0 fun x12 h0 => ?_
  refine tr tbk 2 (.mk ?_)
  cases x12
  replace h0 := cf h0
  refine tc tbk 7 (.mk ?_)
  obtain ⟨x13, e13, h0⟩ := bnd_e h0
  cases x13
  replace h0 := cf h0
  obtain ⟨x14, e14, h0⟩ := bnd_e h0
  cases x14
  replace h0 := cf h0
  obtain ⟨p15, h0⟩ := asrt_e h0
  refine rsas 27 (int 2) rfl (congrArg int p15) ?_
  refine sY (yv_to (y := .pt 1 v4 0 3) (yv_indexAddrA rfl Tryz.underlying40 sh3 rfl rfl rfl rfl rfl (by decide)) rfl) ?_
  refine tr tbk 2 (.mk ?_)
  refine ni tbk h0 fun x16 h0 => ?_
  refine tr tbk 1 (.mk ?_)
  refine sY (yv_to (y := .pt 1 v4 0 3) (yv_indexAddrA rfl Tryz.underlying40 sh3 rfl rfl rfl rfl rfl (by decide)) rfl) ?_
  refine sS ⟨42, 4, true, true, v4, [[lst 3 GLayer.av x6.Layers, int x6.Pend.a0, int x6.Pend.a1, int x16]]⟩ sh3 ?_
  refine tr tbk 4 (.mk ?_)
  refine sS ⟨42, 4, true, true, v5, [[lst 3 GLayer.av x6.Layers, int x6.Pend.a0, int x6.Pend.a1, int x16]]⟩ sh42 ?_
  refine tr tbk 2 (.mk ?_)
  obtain rfl := nxt_e h0
  refine wR hret (rC sh42 (rT .nil)) ?_
  exact .refl _
  replace h0 := ct h0
  refine rsas 27 (int 1) rfl (congrArg int (of_decide_eq_true e14)) ?_
  refine sY (yv_to (y := .pt 1 v4 0 2) (yv_indexAddrA rfl Tryz.underlying40 sh3 rfl rfl rfl rfl rfl (by decide)) rfl) ?_
  refine tr tbk 2 (.mk ?_)
  refine ni tbk h0 fun x17 h0 => ?_
  refine tr tbk 1 (.mk ?_)
  refine sY (yv_to (y := .pt 1 v4 0 2) (yv_indexAddrA rfl Tryz.underlying40 sh3 rfl rfl rfl rfl rfl (by decide)) rfl) ?_
  refine sS ⟨42, 4, true, true, v4, [[lst 3 GLayer.av x6.Layers, int x6.Pend.a0, int x17, int x6.Pend.a2]]⟩ sh3 ?_
  refine tr tbk 4 (.mk ?_)
  refine sS ⟨42, 4, true, true, v5, [[lst 3 GLayer.av x6.Layers, int x6.Pend.a0, int x17, int x6.Pend.a2]]⟩ sh42 ?_
  refine tr tbk 2 (.mk ?_)
  obtain rfl := nxt_e h0
  refine wR hret (rC sh42 (rT .nil)) ?_
  exact .refl _
  replace h0 := ct h0
  refine rsas 27 (int 0) rfl (congrArg int (of_decide_eq_true e13)) ?_
  refine sY (yv_to (y := .pt 1 v4 0 1) (yv_indexAddrA rfl Tryz.underlying40 sh3 rfl rfl rfl rfl rfl (by decide)) rfl) ?_
  refine tr tbk 2 (.mk ?_)
  refine ni tbk h0 fun x18 h0 => ?_
  refine tr tbk 1 (.mk ?_)
  refine sY (yv_to (y := .pt 1 v4 0 1) (yv_indexAddrA rfl Tryz.underlying40 sh3 rfl rfl rfl rfl rfl (by decide)) rfl) ?_
  refine sS ⟨42, 4, true, true, v4, [[lst 3 GLayer.av x6.Layers, int x18, int x6.Pend.a1, int x6.Pend.a2]]⟩ sh3 ?_
  refine tr tbk 4 (.mk ?_)
  refine sS ⟨42, 4, true, true, v5, [[lst 3 GLayer.av x6.Layers, int x18, int x6.Pend.a1, int x6.Pend.a2]]⟩ sh42 ?_
  refine tr tbk 2 (.mk ?_)
  obtain rfl := nxt_e h0
  refine wR hret (rC sh42 (rT .nil)) ?_
  exact .refl _
  replace h0 := ct h0
  refine tc tbk 4 (.mk ?_)
  refine sS ⟨42, 4, true, true, v5, [[lst 3 GLayer.av x6.Layers, int x6.Pend.a0, int x6.Pend.a1, int x6.Pend.a2]]⟩ sh42 ?_
  refine tr tbk 2 (.mk ?_)
  obtain rfl := nxt_e h0
  refine wR hret (rC sh42 (rT .nil)) ?_
  exact .refl _
  replace h0 := ct h0
  refine tc tbk 4 (.mk ?_)
  refine sS ⟨42, 4, true, true, v5, [[lst 3 GLayer.av x6.Layers, int x6.Pend.a0, int x6.Pend.a1, int x6.Pend.a2]]⟩ sh42 ?_
  refine tr tbk 2 (.mk ?_)
  obtain rfl := nxt_e h0
  refine wR hret (rC sh42 (rT .nil)) ?_
  exact .refl _
def d_pool_Out (n : Nat) (a1 : Int) (a2 : Int) (a3 : GPool) (a4 : Int) (a5 : Int) : Option (GPool × GLayer × Bool × Int) :=
(show Option ((Unit) ⊕ (Unit) ⊕ (Unit) ⊕ (Unit) ⊕ (Unit)) from
bnd (decide (a1 = 1)) fun x10 =>
cond x10 (some (.inr (.inr (.inr (.inr ()))))) (bnd (decide (a1 = 2)) fun x11 =>
cond x11 (some (.inr (.inr (.inr (.inl ()))))) (bnd (decide (a1 = 3)) fun x12 =>
cond x12 (some (.inr (.inr (.inl ())))) (bnd (decide (a1 = 4)) fun x13 =>
cond x13 (some (.inr (.inl ()))) (some (.inl ())))))).bind <| selr (fun _ =>
(d_pool_own a3).bind fun x14 =>
some ((x14 : GPool), ((⟨0, 0, 0⟩ : GLayer) : GLayer), (false : Bool), (12 : Int))) <| selr (fun _ =>
(show Option (Bool) from
bnd (decide (a4 < 0)) fun x16 =>
cond x16 (some (true : Bool)) (bnd (decide (a4 > 3)) fun x17 =>
some (x17 : Bool))).bind <| fun y5_1 =>
cond y5_1 ((d_pool_own a3).bind fun x32 =>
some ((x32 : GPool), ((⟨0, 0, 0⟩ : GLayer) : GLayer), (false : Bool), (1 : Int))) ((show Option ((Unit)) from
some ()).bind <| fun _ =>
(show Option ((GPool × GLayer × Int)) from
(d_stdcost_Out n a3.Layers a5 a2).bind fun x27 =>
(d_pool_with a3 x27.1).bind fun x29 =>
some ((x29 : GPool), (x27.2.1 : GLayer), (x27.2.2 : Int))).bind <| p2 fun (y7_1 : GPool) (q0 : GLayer × Int) => (p2 fun (y7_2 : GLayer) (y7_3 : Int) =>
bnd (decide (y7_3 ≠ 0)) fun x30 =>
cond x30 ((d_pool_own a3).bind fun x31 =>
some ((x31 : GPool), ((⟨0, 0, 0⟩ : GLayer) : GLayer), (false : Bool), (y7_3 : Int))) (some ((y7_1 : GPool), (y7_2 : GLayer), (false : Bool), (0 : Int)))) q0)) <| selr (fun _ =>
(show Option (Bool) from
bnd (decide (a4 < 0)) fun x34 =>
cond x34 (some (true : Bool)) (bnd (decide (a4 > 3)) fun x35 =>
some (x35 : Bool))).bind <| fun y5_1 =>
cond y5_1 ((d_pool_own a3).bind fun x51 =>
some ((x51 : GPool), ((⟨0, 0, 0⟩ : GLayer) : GLayer), (false : Bool), (1 : Int))) ((show Option ((Unit)) from
some ()).bind <| fun _ =>
bnd (decide (a4 ≠ 3)) fun x40 =>
(show Option (Int × Bool × GLayer × GPool) from
cond x40 ((d_pavg_Wait n a3 a4 a5).bind fun x48 =>
some ((x48.2 : Int), (true : Bool), ((⟨0, 0, 0⟩ : GLayer) : GLayer), (x48.1 : GPool))) ((show Option ((GPool × GLayer × Int)) from
(d_pavg_Out n a3 a5).bind fun x47 =>
some ((x47.1 : GPool), (x47.2.1 : GLayer), (x47.2.2 : Int))).bind <| p2 fun (y10_1 : GPool) (q0 : GLayer × Int) => (p2 fun (y10_2 : GLayer) (y10_3 : Int) =>
some ((y10_3 : Int), (false : Bool), (y10_2 : GLayer), (y10_1 : GPool))) q0)).bind <| p2 fun (y9_1 : Int) (q0 : Bool × GLayer × GPool) => (p2 fun (y9_2 : Bool) (q1 : GLayer × GPool) => (p2 fun (y9_3 : GLayer) (y9_4 : GPool) =>
bnd (decide (y9_1 ≠ 0)) fun x49 =>
cond x49 ((d_pool_own a3).bind fun x50 =>
some ((x50 : GPool), ((⟨0, 0, 0⟩ : GLayer) : GLayer), (false : Bool), (y9_1 : Int))) (some ((y9_4 : GPool), (y9_3 : GLayer), (y9_2 : Bool), (0 : Int)))) q1) q0)) <| selr (fun _ =>
(show Option (Bool) from
bnd (decide (a4 < 0)) fun x53 =>
cond x53 (some (true : Bool)) (bnd (decide (a4 > 3)) fun x54 =>
some (x54 : Bool))).bind <| fun y5_1 =>
cond y5_1 ((d_pool_own a3).bind fun x69 =>
some ((x69 : GPool), ((⟨0, 0, 0⟩ : GLayer) : GLayer), (false : Bool), (1 : Int))) ((show Option ((Unit)) from
some ()).bind <| fun _ =>
(show Option ((GPool × GLayer × Int)) from
(d_mavg_Out n a3.Layers a5).bind fun x64 =>
(d_pool_with a3 x64.1).bind fun x66 =>
some ((x66 : GPool), (x64.2.1 : GLayer), (x64.2.2 : Int))).bind <| p2 fun (y11_1 : GPool) (q0 : GLayer × Int) => (p2 fun (y11_2 : GLayer) (y11_3 : Int) =>
bnd (decide (y11_3 ≠ 0)) fun x67 =>
cond x67 ((d_pool_own a3).bind fun x68 =>
some ((x68 : GPool), ((⟨0, 0, 0⟩ : GLayer) : GLayer), (false : Bool), (y11_3 : Int))) (some ((y11_1 : GPool), (y11_2 : GLayer), (false : Bool), (0 : Int)))) q0)) <| fun _ =>
(show Option (Bool) from
bnd (decide (a4 < 0)) fun x71 =>
cond x71 (some (true : Bool)) (bnd (decide (a4 > 3)) fun x72 =>
some (x72 : Bool))).bind <| fun y5_1 =>
cond y5_1 ((d_pool_own a3).bind fun x87 =>
some ((x87 : GPool), ((⟨0, 0, 0⟩ : GLayer) : GLayer), (false : Bool), (1 : Int))) ((show Option ((Unit)) from
some ()).bind <| fun _ =>
(show Option ((GPool × GLayer × Int)) from
(d_fifo_Out n a3.Layers a5).bind fun x82 =>
(d_pool_with a3 x82.1).bind fun x84 =>
some ((x84 : GPool), (x82.2.1 : GLayer), (x82.2.2 : Int))).bind <| p2 fun (y12_1 : GPool) (q0 : GLayer × Int) => (p2 fun (y12_2 : GLayer) (y12_3 : Int) =>
bnd (decide (y12_3 ≠ 0)) fun x85 =>
cond x85 ((d_pool_own a3).bind fun x86 =>
some ((x86 : GPool), ((⟨0, 0, 0⟩ : GLayer) : GLayer), (false : Bool), (y12_3 : Int))) (some ((y12_1 : GPool), (y12_2 : GLayer), (false : Bool), (0 : Int)))) q0)
theorem d_pool_Out_c {n : Nat} {a1 : Int} {a2 : Int} {a3 : GPool} {a4 : Int} {a5 : Int} {r : GPool × GLayer × Bool × Int} (h0 : d_pool_Out n a1 a2 a3 a4 a5 = some r) : PP Tryz.prog 51 [int a1, int a2, .agg (GPool.av a3), int a4, int a5] (fun y => y = .tup [.agg (GPool.av r.1), .agg (GLayer.av r.2.1), boo r.2.2.1, int r.2.2.2]) := by
  unfold d_pool_Out at h0
  refine pp_of_pc (R0 := fun y H => Cv (frzH H) y (.tup [.agg (GPool.av r.1), .agg (GLayer.av r.2.1), boo r.2.2.1, int r.2.2.2])) ?_ (fun y H hc => ⟨_, rfl, .tup (pvl4 ((fun (a : GPool) => PV.agg (GPool.pvc a)) (r.1)) ((fun (a : GLayer) => PV.agg (GLayer.pvc a)) (r.2.1)) (pvB (r.2.2.1)) (pvI (r.2.2.2))), hc⟩)
  refine pcw (c := _) Tryz.func51 rfl rfl ?_; intro Q hret hnorm
  refine tc tbk 2 (.mk ?_)
  refine sB 1 fun v6 => ?_
  refine sA 2 z42 fun v7 => ?_
  refine sA 3 z50 fun v8 => ?_
  refine tr tbk 7 (.mk ?_)
  obtain ⟨j9, h1, h0⟩ := bind_e h0
  refine rse (Out := fun y H' => (∃ (a : Unit) (k : Unit), (.inl a) = j9 ∧ y = .sc .nilIface ∧ H' = hk [(1, ⟨42, 4, true, true, v6, [[lst 3 GLayer.av a3.Layers, int a3.Pend.a0, int a3.Pend.a1, int a3.Pend.a2]]⟩), (2, ⟨42, 4, true, true, v7, [[.sc (.slice none 0 0), int 0, int 0, int 0]]⟩), (3, ⟨50, 3, true, true, v8, [[int 0, int 0, int 0]]⟩)]) ∨ (∃ (a : Unit) (k : Unit), (.inr (.inl a)) = j9 ∧ y = .ifc 193 (.agg [int a2]) ∧ H' = hk [(1, ⟨42, 4, true, true, v6, [[lst 3 GLayer.av a3.Layers, int a3.Pend.a0, int a3.Pend.a1, int a3.Pend.a2]]⟩), (2, ⟨42, 4, true, true, v7, [[.sc (.slice none 0 0), int 0, int 0, int 0]]⟩), (3, ⟨50, 3, true, true, v8, [[int 0, int 0, int 0]]⟩)]) ∨ (∃ (a : Unit) (k : Unit), (.inr (.inr (.inl a))) = j9 ∧ y = .ifc 191 (.agg []) ∧ H' = hk [(1, ⟨42, 4, true, true, v6, [[lst 3 GLayer.av a3.Layers, int a3.Pend.a0, int a3.Pend.a1, int a3.Pend.a2]]⟩), (2, ⟨42, 4, true, true, v7, [[.sc (.slice none 0 0), int 0, int 0, int 0]]⟩), (3, ⟨50, 3, true, true, v8, [[int 0, int 0, int 0]]⟩)]) ∨ (∃ (a : Unit) (k : Unit), (.inr (.inr (.inr (.inl a)))) = j9 ∧ y = .ifc 190 (.agg []) ∧ H' = hk [(1, ⟨42, 4, true, true, v6, [[lst 3 GLayer.av a3.Layers, int a3.Pend.a0, int a3.Pend.a1, int a3.Pend.a2]]⟩), (2, ⟨42, 4, true, true, v7, [[.sc (.slice none 0 0), int 0, int 0, int 0]]⟩), (3, ⟨50, 3, true, true, v8, [[int 0, int 0, int 0]]⟩)]) ∨ (∃ (a : Unit) (k : Unit), (.inr (.inr (.inr (.inr a)))) = j9 ∧ y = .ifc 189 (.agg []) ∧ H' = hk [(1, ⟨42, 4, true, true, v6, [[lst 3 GLayer.av a3.Layers, int a3.Pend.a0, int a3.Pend.a1, int a3.Pend.a2]]⟩), (2, ⟨42, 4, true, true, v7, [[.sc (.slice none 0 0), int 0, int 0, int 0]]⟩), (3, ⟨50, 3, true, true, v8, [[int 0, int 0, int 0]]⟩)])) rfl rfl rfl (yl_call rfl rfl (.cons rfl (.cons rfl .nil)) cal95 ?_) ?_
  refine pcw (c := _) Tryz.func95 rfl rfl ?_; intro Q hret hnorm
  refine tc tbk 12 (.mk ?_)
  refine nb tbk h1 fun x10 h1 => ?_
  refine tr tbk 2 (.mk ?_)
  cases x10
  replace h1 := cf h1
  refine tc tbk 3 (.mk ?_)
  refine nb tbk h1 fun x11 h1 => ?_
  refine tr tbk 2 (.mk ?_)
  cases x11
  replace h1 := cf h1
  refine tc tbk 3 (.mk ?_)
  refine nb tbk h1 fun x12 h1 => ?_
  refine tr tbk 2 (.mk ?_)
  cases x12
  replace h1 := cf h1
  refine tc tbk 3 (.mk ?_)
  refine nb tbk h1 fun x13 h1 => ?_
  refine tr tbk 2 (.mk ?_)
  cases x13
  replace h1 := cf h1
  refine tc tbk 7 (.mk ?_)
  obtain rfl := nxt_e h1
  refine w_ret (hret _ _ (hk [(1, ⟨42, 4, true, true, v6, [[lst 3 GLayer.av a3.Layers, int a3.Pend.a0, int a3.Pend.a1, int a3.Pend.a2]]⟩), (2, ⟨42, 4, true, true, v7, [[.sc (.slice none 0 0), int 0, int 0, int 0]]⟩), (3, ⟨50, 3, true, true, v8, [[int 0, int 0, int 0]]⟩)]) (.tmp rfl .nil) (HK.le ⟨rfl, rfl, rfl, trivial⟩) ?_)
  exact (.inl ⟨(), (), rfl, rfl, rfl⟩)
  replace h1 := ct h1
  refine tc tbk 5 (.mk ?_)
  refine sY (yv_makeIface rfl Tryz.underlying193 (by intro _ h; cases h) rfl) ?_
  refine tr tbk 2 (.mk ?_)
  obtain rfl := nxt_e h1
  refine w_ret (hret _ _ (hk [(1, ⟨42, 4, true, true, v6, [[lst 3 GLayer.av a3.Layers, int a3.Pend.a0, int a3.Pend.a1, int a3.Pend.a2]]⟩), (2, ⟨42, 4, true, true, v7, [[.sc (.slice none 0 0), int 0, int 0, int 0]]⟩), (3, ⟨50, 3, true, true, v8, [[int 0, int 0, int 0]]⟩)]) (.tmp rfl .nil) (HK.le ⟨rfl, rfl, rfl, trivial⟩) ?_)
  exact (.inr (.inl ⟨(), (), rfl, rfl, rfl⟩))
  replace h1 := ct h1
  refine tc tbk 4 (.mk ?_)
  refine sY (yv_makeIface rfl Tryz.underlying191 (by intro _ h; cases h) rfl) ?_
  refine tr tbk 2 (.mk ?_)
  obtain rfl := nxt_e h1
  refine w_ret (hret _ _ (hk [(1, ⟨42, 4, true, true, v6, [[lst 3 GLayer.av a3.Layers, int a3.Pend.a0, int a3.Pend.a1, int a3.Pend.a2]]⟩), (2, ⟨42, 4, true, true, v7, [[.sc (.slice none 0 0), int 0, int 0, int 0]]⟩), (3, ⟨50, 3, true, true, v8, [[int 0, int 0, int 0]]⟩)]) (.tmp rfl .nil) (HK.le ⟨rfl, rfl, rfl, trivial⟩) ?_)
  exact (.inr (.inr (.inl ⟨(), (), rfl, rfl, rfl⟩)))
  replace h1 := ct h1
  refine tc tbk 4 (.mk ?_)
  refine sY (yv_makeIface rfl Tryz.underlying190 (by intro _ h; cases h) rfl) ?_
  refine tr tbk 2 (.mk ?_)
  obtain rfl := nxt_e h1
  refine w_ret (hret _ _ (hk [(1, ⟨42, 4, true, true, v6, [[lst 3 GLayer.av a3.Layers, int a3.Pend.a0, int a3.Pend.a1, int a3.Pend.a2]]⟩), (2, ⟨42, 4, true, true, v7, [[.sc (.slice none 0 0), int 0, int 0, int 0]]⟩), (3, ⟨50, 3, true, true, v8, [[int 0, int 0, int 0]]⟩)]) (.tmp rfl .nil) (HK.le ⟨rfl, rfl, rfl, trivial⟩) ?_)
  exact (.inr (.inr (.inr (.inl ⟨(), (), rfl, rfl, rfl⟩))))
  replace h1 := ct h1
  refine tc tbk 4 (.mk ?_)
  refine sY (yv_makeIface rfl Tryz.underlying189 (by intro _ h; cases h) rfl) ?_
  refine tr tbk 2 (.mk ?_)
  obtain rfl := nxt_e h1
  refine w_ret (hret _ _ (hk [(1, ⟨42, 4, true, true, v6, [[lst 3 GLayer.av a3.Layers, int a3.Pend.a0, int a3.Pend.a1, int a3.Pend.a2]]⟩), (2, ⟨42, 4, true, true, v7, [[.sc (.slice none 0 0), int 0, int 0, int 0]]⟩), (3, ⟨50, 3, true, true, v8, [[int 0, int 0, int 0]]⟩)]) (.tmp rfl .nil) (HK.le ⟨rfl, rfl, rfl, trivial⟩) ?_)
  exact (.inr (.inr (.inr (.inr ⟨(), (), rfl, rfl, rfl⟩))))
  rintro y _ (⟨_, _, rfl, hc, rfl⟩ | ⟨_, _, rfl, hc, rfl⟩ | ⟨_, _, rfl, hc, rfl⟩ | ⟨_, _, rfl, hc, rfl⟩ | ⟨_, _, rfl, hc, rfl⟩)
  replace h0 := selr_l h0
  subst hc
  refine tr tbk 6 (.mk ?_)
  refine sY (yv_ifeqN rfl Tryz.underlying135 rfl rfl) ?_
  refine tr tbk 5 (.mk ?_)
  obtain ⟨x14, e14, h0⟩ := bind_e h0
  refine sC cal96 (d_pool_own_c e14) ?_
  refine tr tbk 1 (.mk ?_)
  refine sS ⟨42, 4, true, true, v7, [[lst 3 GLayer.av x14.Layers, int x14.Pend.a0, int x14.Pend.a1, int x14.Pend.a2]]⟩ sh42 ?_
  refine sS ⟨50, 3, true, true, v8, [[int 0, int 0, int 0]]⟩ sh50 ?_
  refine tr tbk 3 (.mk ?_)
  obtain rfl := nxt_e h0
  refine wR hret (rC sh42 (rC sh50 (rT (rT .nil)))) ?_
  exact .refl _
  replace h0 := selr_r h0
  replace h0 := selr_l h0
  subst hc
  refine tr tbk 6 (.mk ?_)
  refine sY (yv_ifeq rfl Tryz.underlying135 rfl rfl) ?_
  refine tr tbk 5 (.mk ?_)
  refine jn h0 [3, 4, 7, 10, 11, 12, 13, 14] [1, 2, 3] (fun (a : Bool) (k : Unit) => [(32, boo a)]) (fun a k => []) ⟨fun j15 h1 => ?_, ?_⟩
  refine tc tbk 2 (.mk ?_)
  refine nb tbk h1 fun x16 h1 => ?_
  refine tr tbk 1 (.mk ?_)
  cases x16
  replace h1 := cf h1
  refine tr tbk 1 (.mk ?_)
  refine nb tbk h1 fun x17 h1 => ?_
  refine tr tbk 2 (.mk ?_)
  exact lf h1 () leA
  replace h1 := ct h1
  refine tr tbk 4 (.mk ?_)
  exact lf h1 () leA
  rintro y5_1 _ h0
  cases y5_1
  replace h0 := cf h0
  refine tc tbk 4 (.mk ?_)
  refine sA 4 z50 fun v18 => ?_
  refine tr tbk 3 (.mk ?_)
  refine sA 5 z42 fun v19 => ?_
  refine tr tbk 8 (.mk ?_)
  obtain ⟨j20, h1, h0⟩ := bind_e h0
  refine rse (Out := fun y H' => (∃ (a : Unit) (k : Unit), a = j20 ∧ y = boo false ∧ H' = hk [(1, ⟨42, 4, true, true, v6, [[lst 3 GLayer.av a3.Layers, int a3.Pend.a0, int a3.Pend.a1, int a3.Pend.a2]]⟩), (2, ⟨42, 4, true, true, v7, [[.sc (.slice none 0 0), int 0, int 0, int 0]]⟩), (3, ⟨50, 3, true, true, v8, [[int 0, int 0, int 0]]⟩), (4, ⟨50, 3, true, true, v18, [[int 0, int 0, int 0]]⟩), (5, ⟨42, 4, true, true, v19, [[.sc (.slice none 0 0), int 0, int 0, int 0]]⟩)])) rfl rfl rfl (yl_call rfl rfl (.cons rfl .nil) cal101 ?_) ?_
  refine pcw (c := _) Tryz.func101 rfl rfl ?_; intro Q hret hnorm
  refine tc tbk 7 (.mk ?_)
  refine sY (yv_tassF rfl Tryz.underlying191 rfl rfl rfl zag191) ?_
  refine tr tbk 3 (.mk ?_)
  refine sA 6 z191 fun v21 => ?_
  refine sS ⟨191, 0, true, true, v21, [[]]⟩ sh191 ?_
  refine tr tbk 7 (.mk ?_)
  obtain rfl := nxt_e h1
  refine w_ret (hret _ _ (hk [(1, ⟨42, 4, true, true, v6, [[lst 3 GLayer.av a3.Layers, int a3.Pend.a0, int a3.Pend.a1, int a3.Pend.a2]]⟩), (2, ⟨42, 4, true, true, v7, [[.sc (.slice none 0 0), int 0, int 0, int 0]]⟩), (3, ⟨50, 3, true, true, v8, [[int 0, int 0, int 0]]⟩), (4, ⟨50, 3, true, true, v18, [[int 0, int 0, int 0]]⟩), (5, ⟨42, 4, true, true, v19, [[.sc (.slice none 0 0), int 0, int 0, int 0]]⟩)]) (.tmp rfl .nil) (HK.le ⟨rfl, rfl, rfl, rfl, rfl, trivial⟩) ?_)
  exact ⟨(), (), rfl, rfl, rfl⟩
  rintro y _ ⟨_, _, rfl, hc, rfl⟩
  subst hc
  refine tr tbk 16 (.mk ?_)
  obtain ⟨j22, h1, h0⟩ := bind_e h0
  refine rse (Out := fun y H' => (∃ (a : GPool × GLayer × Int) (k : Unit), a = j22 ∧ y = .tup [.agg [lst 3 GLayer.av a.1.Layers, int a.1.Pend.a0, int a.1.Pend.a1, int a.1.Pend.a2], .agg [int a.2.1.Qty, int a.2.1.Value, int a.2.1.Profit], int a.2.2] ∧ H' = hk [(1, ⟨42, 4, true, true, v6, [[lst 3 GLayer.av a3.Layers, int a3.Pend.a0, int a3.Pend.a1, int a3.Pend.a2]]⟩), (2, ⟨42, 4, true, true, v7, [[.sc (.slice none 0 0), int 0, int 0, int 0]]⟩), (3, ⟨50, 3, true, true, v8, [[int 0, int 0, int 0]]⟩), (4, ⟨50, 3, true, true, v18, [[int 0, int 0, int 0]]⟩), (5, ⟨42, 4, true, true, v19, [[.sc (.slice none 0 0), int 0, int 0, int 0]]⟩)])) rfl rfl rfl (yl_callI rfl rfl mth193_280 (.cons rfl (.cons rfl .nil)) cal280 ?_) ?_
  refine pcw (c := _) Tryz.func280 rfl rfl ?_; intro Q hret hnorm
  refine tc tbk 2 (.mk ?_)
  refine sB 7 fun v23 => ?_
  refine sB 8 fun v24 => ?_
  refine sA 9 z42 fun v25 => ?_
  refine sA 10 z50 fun v26 => ?_
  refine tr tbk 9 (.mk ?_)
  obtain ⟨x27, e27, h1⟩ := bind_e h1
  refine sC cal282 (d_stdcost_Out_c e27) ?_
  refine tr tbk 4 (.mk ?_)
  refine sA 11 z50 fun v28 => ?_
  refine tr tbk 1 (.mk ?_)
  refine sS ⟨50, 3, true, true, v28, [[int x27.2.1.Qty, int x27.2.1.Value, int x27.2.1.Profit]]⟩ sh50 ?_
  refine tr tbk 3 (.mk ?_)
  refine c_drawE [0, 0, 3, 0, 0, 7, 47, 127] (rl [(0, [8]), (3, [11])] []) (rl [(5, [11]), (6, [])] [8, 11]) (rl [(5, false), (6, false)] true) [0, 1, 2, 3, 4, 5, 6, 7] mixed (by kernel_rfl) ?_; intro K hK
  refine eL sh42 ?_
  refine eM ?_
  obtain ⟨x29, e29, h1⟩ := bind_e h1
  refine eP (fun H hH => yv_callP rfl rfl (.cons rfl (.cons rfl .nil)) cal146 (CvL.refl _) (d_pool_with_c e29)) ?_
  refine eL sh50 ?_
  refine eM ?_
  refine de_eff0 rfl rfl rfl rfl (Yield.weak (yl_ob (ob' := (⟨42, 4, true, true, v25, [[lst 3 GLayer.av x29.Layers, int x29.Pend.a0, int x29.Pend.a1, int x29.Pend.a2]]⟩ : AObj)) (yl_store rfl sh42 rfl rfl rfl rfl rfl rfl rfl rfl rfl) rfl) (fun _ h => h) (fun _ _ => trivial)) (by rintro _ _ ⟨rfl, rfl⟩; exact ⟨rfl, trivial⟩) ?_; rintro _ _ ⟨rfl, rfl⟩
  refine de_eff0 rfl rfl rfl rfl (Yield.weak (yl_ob (ob' := (⟨50, 3, true, true, v26, [[int x27.2.1.Qty, int x27.2.1.Value, int x27.2.1.Profit]]⟩ : AObj)) (yl_store rfl sh50 rfl rfl rfl rfl rfl rfl rfl rfl rfl) rfl) (fun _ h => h) (fun _ _ => trivial)) (by rintro _ _ ⟨rfl, rfl⟩; exact trivial) ?_; rintro _ _ ⟨rfl, rfl⟩
  refine eA ?_
  refine de_nil (hK _ ?_)
  obtain rfl := nxt_e h1
  refine w_ret (hret _ _ (hk [(1, ⟨42, 4, true, true, v6, [[lst 3 GLayer.av a3.Layers, int a3.Pend.a0, int a3.Pend.a1, int a3.Pend.a2]]⟩), (2, ⟨42, 4, true, true, v7, [[.sc (.slice none 0 0), int 0, int 0, int 0]]⟩), (3, ⟨50, 3, true, true, v8, [[int 0, int 0, int 0]]⟩), (4, ⟨50, 3, true, true, v18, [[int 0, int 0, int 0]]⟩), (5, ⟨42, 4, true, true, v19, [[.sc (.slice none 0 0), int 0, int 0, int 0]]⟩)]) (.cell rfl (.pt rfl rfl rfl) sh42 rfl (.cell rfl (.pt rfl rfl rfl) sh50 rfl (.tmp rfl .nil))) (HK.le ⟨rfl, rfl, rfl, rfl, rfl, trivial⟩) ?_)
  exact ⟨(x29, x27.2.1, x27.2.2), (), rfl, rfl, rfl⟩
  rintro y _ ⟨⟨y7_1, y7_2, y7_3⟩, _, rfl, hc, rfl⟩
  replace h0 := p2_e h0
  replace h0 := p2_e h0
  subst hc
  refine tr tbk 4 (.mk ?_)
  refine sS ⟨42, 4, true, true, v19, [[lst 3 GLayer.av y7_1.Layers, int y7_1.Pend.a0, int y7_1.Pend.a1, int y7_1.Pend.a2]]⟩ sh42 ?_
  refine sS ⟨50, 3, true, true, v18, [[int y7_2.Qty, int y7_2.Value, int y7_2.Profit]]⟩ sh50 ?_
  refine tr tbk 6 (.mk ?_)
  refine nb tbk h0 fun x30 h0 => ?_
  refine tr tbk 1 (.mk ?_)
  cases x30
  replace h0 := cf h0
  refine tc tbk 3 (.mk ?_)
  refine c_drawE [0, 0, 0, 1, 11, 31, 63] (rl [(0, [5]), (1, [4])] []) (rl [(3, [4]), (4, [])] [4, 5]) (rl [(3, false), (4, false)] true) [0, 1, 2, 3, 4, 5, 6] mixed (by kernel_rfl) ?_; intro K hK
  refine eL sh42 ?_
  refine eL sh50 ?_
  refine eM ?_
  refine de_eff0 rfl rfl rfl rfl (Yield.weak (yl_ob (ob' := (⟨42, 4, true, true, v7, [[lst 3 GLayer.av y7_1.Layers, int y7_1.Pend.a0, int y7_1.Pend.a1, int y7_1.Pend.a2]]⟩ : AObj)) (yl_store rfl sh42 rfl rfl rfl rfl rfl rfl rfl rfl rfl) rfl) (fun _ h => h) (fun _ _ => trivial)) (by rintro _ _ ⟨rfl, rfl⟩; exact ⟨rfl, trivial⟩) ?_; rintro _ _ ⟨rfl, rfl⟩
  refine de_eff0 rfl rfl rfl rfl (Yield.weak (yl_ob (ob' := (⟨50, 3, true, true, v8, [[int y7_2.Qty, int y7_2.Value, int y7_2.Profit]]⟩ : AObj)) (yl_store rfl sh50 rfl rfl rfl rfl rfl rfl rfl rfl rfl) rfl) (fun _ h => h) (fun _ _ => trivial)) (by rintro _ _ ⟨rfl, rfl⟩; exact trivial) ?_; rintro _ _ ⟨rfl, rfl⟩
  iterate 2 refine eA ?_
  refine de_nil (hK _ ?_)
  obtain rfl := nxt_e h0
  refine wR hret (rC sh42 (rC sh50 (rT (rT .nil)))) ?_
  exact .refl _
  replace h0 := ct h0
  refine tc tbk 4 (.mk ?_)
  obtain ⟨x31, e31, h0⟩ := bind_e h0
  refine sC cal96 (d_pool_own_c e31) ?_
  refine tr tbk 2 (.mk ?_)
  refine sS ⟨42, 4, true, true, v7, [[lst 3 GLayer.av x31.Layers, int x31.Pend.a0, int x31.Pend.a1, int x31.Pend.a2]]⟩ sh42 ?_
  refine sS ⟨50, 3, true, true, v8, [[int 0, int 0, int 0]]⟩ sh50 ?_
  refine tr tbk 3 (.mk ?_)
  obtain rfl := nxt_e h0
  refine wR hret (rC sh42 (rC sh50 (rT (rT .nil)))) ?_
  exact .refl _
  replace h0 := ct h0
  refine tc tbk 4 (.mk ?_)
  obtain ⟨x32, e32, h0⟩ := bind_e h0
  refine sC cal96 (d_pool_own_c e32) ?_
  refine tr tbk 1 (.mk ?_)
  refine sS ⟨42, 4, true, true, v7, [[lst 3 GLayer.av x32.Layers, int x32.Pend.a0, int x32.Pend.a1, int x32.Pend.a2]]⟩ sh42 ?_
  refine sS ⟨50, 3, true, true, v8, [[int 0, int 0, int 0]]⟩ sh50 ?_
  refine tr tbk 3 (.mk ?_)
  obtain rfl := nxt_e h0
  refine wR hret (rC sh42 (rC sh50 (rT (rT .nil)))) ?_
  exact .refl _
  replace h0 := selr_r h0
  replace h0 := selr_r h0
  replace h0 := selr_l h0
  subst hc
  refine tr tbk 6 (.mk ?_)
  refine sY (yv_ifeq rfl Tryz.underlying135 rfl rfl) ?_
  refine tr tbk 5 (.mk ?_)
  refine jn h0 [3, 4, 7, 10, 11, 12, 13, 14] [1, 2, 3] (fun (a : Bool) (k : Unit) => [(32, boo a)]) (fun a k => []) ⟨fun j33 h1 => ?_, ?_⟩
  refine tc tbk 2 (.mk ?_)
  refine nb tbk h1 fun x34 h1 => ?_
  refine tr tbk 1 (.mk ?_)
  cases x34
  replace h1 := cf h1
  refine tr tbk 1 (.mk ?_)
  refine nb tbk h1 fun x35 h1 => ?_
  refine tr tbk 2 (.mk ?_)
  exact lf h1 () leA
  replace h1 := ct h1
  refine tr tbk 4 (.mk ?_)
  exact lf h1 () leA
  rintro y5_1 _ h0
  cases y5_1
  replace h0 := cf h0
  refine tc tbk 4 (.mk ?_)
  refine sA 4 z50 fun v36 => ?_
  refine tr tbk 3 (.mk ?_)
  refine sA 5 z42 fun v37 => ?_
  refine tr tbk 8 (.mk ?_)
  obtain ⟨j38, h1, h0⟩ := bind_e h0
  refine rse (Out := fun y H' => (∃ (a : Unit) (k : Unit), a = j38 ∧ y = boo true ∧ H' = hk [(1, ⟨42, 4, true, true, v6, [[lst 3 GLayer.av a3.Layers, int a3.Pend.a0, int a3.Pend.a1, int a3.Pend.a2]]⟩), (2, ⟨42, 4, true, true, v7, [[.sc (.slice none 0 0), int 0, int 0, int 0]]⟩), (3, ⟨50, 3, true, true, v8, [[int 0, int 0, int 0]]⟩), (4, ⟨50, 3, true, true, v36, [[int 0, int 0, int 0]]⟩), (5, ⟨42, 4, true, true, v37, [[.sc (.slice none 0 0), int 0, int 0, int 0]]⟩)])) rfl rfl rfl (yl_call rfl rfl (.cons rfl .nil) cal101 ?_) ?_
  refine pcw (c := _) Tryz.func101 rfl rfl ?_; intro Q hret hnorm
  refine tc tbk 7 (.mk ?_)
  refine sY (yv_tassT rfl Tryz.underlying191 rfl rfl) ?_
  refine tr tbk 3 (.mk ?_)
  refine sA 6 z191 fun v39 => ?_
  refine sS ⟨191, 0, true, true, v39, [[]]⟩ sh191 ?_
  refine tr tbk 7 (.mk ?_)
  obtain rfl := nxt_e h1
  refine w_ret (hret _ _ (hk [(1, ⟨42, 4, true, true, v6, [[lst 3 GLayer.av a3.Layers, int a3.Pend.a0, int a3.Pend.a1, int a3.Pend.a2]]⟩), (2, ⟨42, 4, true, true, v7, [[.sc (.slice none 0 0), int 0, int 0, int 0]]⟩), (3, ⟨50, 3, true, true, v8, [[int 0, int 0, int 0]]⟩), (4, ⟨50, 3, true, true, v36, [[int 0, int 0, int 0]]⟩), (5, ⟨42, 4, true, true, v37, [[.sc (.slice none 0 0), int 0, int 0, int 0]]⟩)]) (.tmp rfl .nil) (HK.le ⟨rfl, rfl, rfl, rfl, rfl, trivial⟩) ?_)
  exact ⟨(), (), rfl, rfl, rfl⟩
  rintro y _ ⟨_, _, rfl, hc, rfl⟩
  subst hc
  refine tr tbk 2 (.mk ?_)
  refine nb tbk h0 fun x40 h0 => ?_
  refine tr tbk 8 (.mk ?_)
  refine jn h0 [7, 10, 11, 12, 13, 15, 16] [1, 2, 3] (fun (a : Int × Bool × GLayer × GPool) (k : Unit) => [(17, int a.1), (18, boo a.2.1)]) (fun a k => [(4, ⟨50, 3, true, true, v36, [[int a.2.2.1.Qty, int a.2.2.1.Value, int a.2.2.1.Profit]]⟩), (5, ⟨42, 4, true, true, v37, [[lst 3 GLayer.av a.2.2.2.Layers, int a.2.2.2.Pend.a0, int a.2.2.2.Pend.a1, int a.2.2.2.Pend.a2]]⟩)]) ⟨fun j41 h1 => ?_, ?_⟩
  cases x40
  replace h1 := cf h1
  refine tc tbk 5 (.mk ?_)
  obtain ⟨j42, h2, h1⟩ := bind_e h1
  refine rse (Out := fun y H' => (∃ (a : GPool × GLayer × Int) (k : Unit), a = j42 ∧ y = .tup [.agg [lst 3 GLayer.av a.1.Layers, int a.1.Pend.a0, int a.1.Pend.a1, int a.1.Pend.a2], .agg [int a.2.1.Qty, int a.2.1.Value, int a.2.1.Profit], int a.2.2] ∧ H' = hk [(1, ⟨42, 4, true, true, v6, [[lst 3 GLayer.av a3.Layers, int a3.Pend.a0, int a3.Pend.a1, int a3.Pend.a2]]⟩), (2, ⟨42, 4, true, true, v7, [[.sc (.slice none 0 0), int 0, int 0, int 0]]⟩), (3, ⟨50, 3, true, true, v8, [[int 0, int 0, int 0]]⟩), (4, ⟨50, 3, true, true, v36, [[int 0, int 0, int 0]]⟩), (5, ⟨42, 4, true, true, v37, [[.sc (.slice none 0 0), int 0, int 0, int 0]]⟩)])) rfl rfl rfl (yl_callI rfl rfl mth191_276 (.cons rfl (.cons rfl .nil)) cal276 ?_) ?_
  refine pcw (c := _) Tryz.func276 rfl rfl ?_; intro Q hret hnorm
  refine tc tbk 2 (.mk ?_)
  refine sB 16 fun v43 => ?_
  refine sB 17 fun v44 => ?_
  refine sA 18 z42 fun v45 => ?_
  refine sA 19 z50 fun v46 => ?_
  refine tr tbk 6 (.mk ?_)
  obtain ⟨x47, e47, h2⟩ := bind_e h2
  refine sC cal278 (d_pavg_Out_c e47) ?_
  refine tr tbk 3 (.mk ?_)
  refine sS ⟨42, 4, true, true, v45, [[lst 3 GLayer.av x47.1.Layers, int x47.1.Pend.a0, int x47.1.Pend.a1, int x47.1.Pend.a2]]⟩ sh42 ?_
  refine sS ⟨50, 3, true, true, v46, [[int x47.2.1.Qty, int x47.2.1.Value, int x47.2.1.Profit]]⟩ sh50 ?_
  refine tr tbk 2 (.mk ?_)
  obtain rfl := nxt_e h2
  refine w_ret (hret _ _ (hk [(1, ⟨42, 4, true, true, v6, [[lst 3 GLayer.av a3.Layers, int a3.Pend.a0, int a3.Pend.a1, int a3.Pend.a2]]⟩), (2, ⟨42, 4, true, true, v7, [[.sc (.slice none 0 0), int 0, int 0, int 0]]⟩), (3, ⟨50, 3, true, true, v8, [[int 0, int 0, int 0]]⟩), (4, ⟨50, 3, true, true, v36, [[int 0, int 0, int 0]]⟩), (5, ⟨42, 4, true, true, v37, [[.sc (.slice none 0 0), int 0, int 0, int 0]]⟩)]) (.cell rfl (.pt rfl rfl rfl) sh42 rfl (.cell rfl (.pt rfl rfl rfl) sh50 rfl (.tmp rfl .nil))) (HK.le ⟨rfl, rfl, rfl, rfl, rfl, trivial⟩) ?_)
  exact ⟨(x47.1, x47.2.1, x47.2.2), (), rfl, rfl, rfl⟩
  rintro y _ ⟨⟨y10_1, y10_2, y10_3⟩, _, rfl, hc, rfl⟩
  replace h1 := p2_e h1
  replace h1 := p2_e h1
  subst hc
  refine tr tbk 4 (.mk ?_)
  refine sS ⟨42, 4, true, true, v37, [[lst 3 GLayer.av y10_1.Layers, int y10_1.Pend.a0, int y10_1.Pend.a1, int y10_1.Pend.a2]]⟩ sh42 ?_
  refine sS ⟨50, 3, true, true, v36, [[int y10_2.Qty, int y10_2.Value, int y10_2.Profit]]⟩ sh50 ?_
  refine tr tbk 2 (.mk ?_)
  exact lf h1 () leA
  replace h1 := ct h1
  refine tc tbk 5 (.mk ?_)
  obtain ⟨x48, e48, h1⟩ := bind_e h1
  refine sC cal102 (d_pavg_Wait_c e48) ?_
  refine tr tbk 3 (.mk ?_)
  refine sS ⟨42, 4, true, true, v37, [[lst 3 GLayer.av x48.1.Layers, int x48.1.Pend.a0, int x48.1.Pend.a1, int x48.1.Pend.a2]]⟩ sh42 ?_
  refine tr tbk 2 (.mk ?_)
  exact lf h1 () leA
  rintro ⟨y9_1, y9_2, y9_3, y9_4⟩ _ h0
  replace h0 := p2_e h0
  replace h0 := p2_e h0
  replace h0 := p2_e h0
  refine tc tbk 4 (.mk ?_)
  refine nb tbk h0 fun x49 h0 => ?_
  refine tr tbk 1 (.mk ?_)
  cases x49
  replace h0 := cf h0
  refine tc tbk 3 (.mk ?_)
  refine c_drawE [0, 0, 0, 1, 11, 31, 63] (rl [(0, [5]), (1, [4])] []) (rl [(3, [4]), (4, [])] [4, 5]) (rl [(3, false), (4, false)] true) [0, 1, 2, 3, 4, 5, 6] mixed (by kernel_rfl) ?_; intro K hK
  refine eL sh42 ?_
  refine eL sh50 ?_
  refine eM ?_
  refine de_eff0 rfl rfl rfl rfl (Yield.weak (yl_ob (ob' := (⟨42, 4, true, true, v7, [[lst 3 GLayer.av y9_4.Layers, int y9_4.Pend.a0, int y9_4.Pend.a1, int y9_4.Pend.a2]]⟩ : AObj)) (yl_store rfl sh42 rfl rfl rfl rfl rfl rfl rfl rfl rfl) rfl) (fun _ h => h) (fun _ _ => trivial)) (by rintro _ _ ⟨rfl, rfl⟩; exact ⟨rfl, trivial⟩) ?_; rintro _ _ ⟨rfl, rfl⟩
  refine de_eff0 rfl rfl rfl rfl (Yield.weak (yl_ob (ob' := (⟨50, 3, true, true, v8, [[int y9_3.Qty, int y9_3.Value, int y9_3.Profit]]⟩ : AObj)) (yl_store rfl sh50 rfl rfl rfl rfl rfl rfl rfl rfl rfl) rfl) (fun _ h => h) (fun _ _ => trivial)) (by rintro _ _ ⟨rfl, rfl⟩; exact trivial) ?_; rintro _ _ ⟨rfl, rfl⟩
  iterate 2 refine eA ?_
  refine de_nil (hK _ ?_)
  obtain rfl := nxt_e h0
  refine wR hret (rC sh42 (rC sh50 (rT (rT .nil)))) ?_
  exact .refl _
  replace h0 := ct h0
  refine tc tbk 4 (.mk ?_)
  obtain ⟨x50, e50, h0⟩ := bind_e h0
  refine sC cal96 (d_pool_own_c e50) ?_
  refine tr tbk 2 (.mk ?_)
  refine sS ⟨42, 4, true, true, v7, [[lst 3 GLayer.av x50.Layers, int x50.Pend.a0, int x50.Pend.a1, int x50.Pend.a2]]⟩ sh42 ?_
  refine sS ⟨50, 3, true, true, v8, [[int 0, int 0, int 0]]⟩ sh50 ?_
  refine tr tbk 3 (.mk ?_)
  obtain rfl := nxt_e h0
  refine wR hret (rC sh42 (rC sh50 (rT (rT .nil)))) ?_
  exact .refl _
  replace h0 := ct h0
  refine tc tbk 4 (.mk ?_)
  obtain ⟨x51, e51, h0⟩ := bind_e h0
  refine sC cal96 (d_pool_own_c e51) ?_
  refine tr tbk 1 (.mk ?_)
  refine sS ⟨42, 4, true, true, v7, [[lst 3 GLayer.av x51.Layers, int x51.Pend.a0, int x51.Pend.a1, int x51.Pend.a2]]⟩ sh42 ?_
  refine sS ⟨50, 3, true, true, v8, [[int 0, int 0, int 0]]⟩ sh50 ?_
  refine tr tbk 3 (.mk ?_)
  obtain rfl := nxt_e h0
  refine wR hret (rC sh42 (rC sh50 (rT (rT .nil)))) ?_
  exact .refl _
  replace h0 := selr_r h0
  replace h0 := selr_r h0
  replace h0 := selr_r h0
  replace h0 := selr_l h0
  subst hc
  refine tr tbk 6 (.mk ?_)
  refine sY (yv_ifeq rfl Tryz.underlying135 rfl rfl) ?_
  refine tr tbk 5 (.mk ?_)
  refine jn h0 [3, 4, 7, 10, 11, 12, 13, 14] [1, 2, 3] (fun (a : Bool) (k : Unit) => [(32, boo a)]) (fun a k => []) ⟨fun j52 h1 => ?_, ?_⟩
  refine tc tbk 2 (.mk ?_)
  refine nb tbk h1 fun x53 h1 => ?_
  refine tr tbk 1 (.mk ?_)
  cases x53
  replace h1 := cf h1
  refine tr tbk 1 (.mk ?_)
  refine nb tbk h1 fun x54 h1 => ?_
  refine tr tbk 2 (.mk ?_)
  exact lf h1 () leA
  replace h1 := ct h1
  refine tr tbk 4 (.mk ?_)
  exact lf h1 () leA
  rintro y5_1 _ h0
  cases y5_1
  replace h0 := cf h0
  refine tc tbk 4 (.mk ?_)
  refine sA 4 z50 fun v55 => ?_
  refine tr tbk 3 (.mk ?_)
  refine sA 5 z42 fun v56 => ?_
  refine tr tbk 8 (.mk ?_)
  obtain ⟨j57, h1, h0⟩ := bind_e h0
  refine rse (Out := fun y H' => (∃ (a : Unit) (k : Unit), a = j57 ∧ y = boo false ∧ H' = hk [(1, ⟨42, 4, true, true, v6, [[lst 3 GLayer.av a3.Layers, int a3.Pend.a0, int a3.Pend.a1, int a3.Pend.a2]]⟩), (2, ⟨42, 4, true, true, v7, [[.sc (.slice none 0 0), int 0, int 0, int 0]]⟩), (3, ⟨50, 3, true, true, v8, [[int 0, int 0, int 0]]⟩), (4, ⟨50, 3, true, true, v55, [[int 0, int 0, int 0]]⟩), (5, ⟨42, 4, true, true, v56, [[.sc (.slice none 0 0), int 0, int 0, int 0]]⟩)])) rfl rfl rfl (yl_call rfl rfl (.cons rfl .nil) cal101 ?_) ?_
  refine pcw (c := _) Tryz.func101 rfl rfl ?_; intro Q hret hnorm
  refine tc tbk 7 (.mk ?_)
  refine sY (yv_tassF rfl Tryz.underlying191 rfl rfl rfl zag191) ?_
  refine tr tbk 3 (.mk ?_)
  refine sA 6 z191 fun v58 => ?_
  refine sS ⟨191, 0, true, true, v58, [[]]⟩ sh191 ?_
  refine tr tbk 7 (.mk ?_)
  obtain rfl := nxt_e h1
  refine w_ret (hret _ _ (hk [(1, ⟨42, 4, true, true, v6, [[lst 3 GLayer.av a3.Layers, int a3.Pend.a0, int a3.Pend.a1, int a3.Pend.a2]]⟩), (2, ⟨42, 4, true, true, v7, [[.sc (.slice none 0 0), int 0, int 0, int 0]]⟩), (3, ⟨50, 3, true, true, v8, [[int 0, int 0, int 0]]⟩), (4, ⟨50, 3, true, true, v55, [[int 0, int 0, int 0]]⟩), (5, ⟨42, 4, true, true, v56, [[.sc (.slice none 0 0), int 0, int 0, int 0]]⟩)]) (.tmp rfl .nil) (HK.le ⟨rfl, rfl, rfl, rfl, rfl, trivial⟩) ?_)
  exact ⟨(), (), rfl, rfl, rfl⟩
  rintro y _ ⟨_, _, rfl, hc, rfl⟩
  subst hc
  refine tr tbk 16 (.mk ?_)
  obtain ⟨j59, h1, h0⟩ := bind_e h0
  refine rse (Out := fun y H' => (∃ (a : GPool × GLayer × Int) (k : Unit), a = j59 ∧ y = .tup [.agg [lst 3 GLayer.av a.1.Layers, int a.1.Pend.a0, int a.1.Pend.a1, int a.1.Pend.a2], .agg [int a.2.1.Qty, int a.2.1.Value, int a.2.1.Profit], int a.2.2] ∧ H' = hk [(1, ⟨42, 4, true, true, v6, [[lst 3 GLayer.av a3.Layers, int a3.Pend.a0, int a3.Pend.a1, int a3.Pend.a2]]⟩), (2, ⟨42, 4, true, true, v7, [[.sc (.slice none 0 0), int 0, int 0, int 0]]⟩), (3, ⟨50, 3, true, true, v8, [[int 0, int 0, int 0]]⟩), (4, ⟨50, 3, true, true, v55, [[int 0, int 0, int 0]]⟩), (5, ⟨42, 4, true, true, v56, [[.sc (.slice none 0 0), int 0, int 0, int 0]]⟩)])) rfl rfl rfl (yl_callI rfl rfl mth190_271 (.cons rfl (.cons rfl .nil)) cal271 ?_) ?_
  refine pcw (c := _) Tryz.func271 rfl rfl ?_; intro Q hret hnorm
  refine tc tbk 2 (.mk ?_)
  refine sB 20 fun v60 => ?_
  refine sB 21 fun v61 => ?_
  refine sA 22 z42 fun v62 => ?_
  refine sA 23 z50 fun v63 => ?_
  refine tr tbk 7 (.mk ?_)
  obtain ⟨x64, e64, h1⟩ := bind_e h1
  refine sC cal273 (d_mavg_Out_c e64) ?_
  refine tr tbk 4 (.mk ?_)
  refine sA 24 z50 fun v65 => ?_
  refine tr tbk 1 (.mk ?_)
  refine sS ⟨50, 3, true, true, v65, [[int x64.2.1.Qty, int x64.2.1.Value, int x64.2.1.Profit]]⟩ sh50 ?_
  refine tr tbk 3 (.mk ?_)
  refine c_drawE [0, 0, 3, 0, 0, 7, 47, 127] (rl [(0, [21]), (3, [24])] []) (rl [(5, [24]), (6, [])] [21, 24]) (rl [(5, false), (6, false)] true) [0, 1, 2, 3, 4, 5, 6, 7] mixed (by kernel_rfl) ?_; intro K hK
  refine eL sh42 ?_
  refine eM ?_
  obtain ⟨x66, e66, h1⟩ := bind_e h1
  refine eP (fun H hH => yv_callP rfl rfl (.cons rfl (.cons rfl .nil)) cal146 (CvL.refl _) (d_pool_with_c e66)) ?_
  refine eL sh50 ?_
  refine eM ?_
  refine de_eff0 rfl rfl rfl rfl (Yield.weak (yl_ob (ob' := (⟨42, 4, true, true, v62, [[lst 3 GLayer.av x66.Layers, int x66.Pend.a0, int x66.Pend.a1, int x66.Pend.a2]]⟩ : AObj)) (yl_store rfl sh42 rfl rfl rfl rfl rfl rfl rfl rfl rfl) rfl) (fun _ h => h) (fun _ _ => trivial)) (by rintro _ _ ⟨rfl, rfl⟩; exact ⟨rfl, trivial⟩) ?_; rintro _ _ ⟨rfl, rfl⟩
  refine de_eff0 rfl rfl rfl rfl (Yield.weak (yl_ob (ob' := (⟨50, 3, true, true, v63, [[int x64.2.1.Qty, int x64.2.1.Value, int x64.2.1.Profit]]⟩ : AObj)) (yl_store rfl sh50 rfl rfl rfl rfl rfl rfl rfl rfl rfl) rfl) (fun _ h => h) (fun _ _ => trivial)) (by rintro _ _ ⟨rfl, rfl⟩; exact trivial) ?_; rintro _ _ ⟨rfl, rfl⟩
  refine eA ?_
  refine de_nil (hK _ ?_)
  obtain rfl := nxt_e h1
  refine w_ret (hret _ _ (hk [(1, ⟨42, 4, true, true, v6, [[lst 3 GLayer.av a3.Layers, int a3.Pend.a0, int a3.Pend.a1, int a3.Pend.a2]]⟩), (2, ⟨42, 4, true, true, v7, [[.sc (.slice none 0 0), int 0, int 0, int 0]]⟩), (3, ⟨50, 3, true, true, v8, [[int 0, int 0, int 0]]⟩), (4, ⟨50, 3, true, true, v55, [[int 0, int 0, int 0]]⟩), (5, ⟨42, 4, true, true, v56, [[.sc (.slice none 0 0), int 0, int 0, int 0]]⟩)]) (.cell rfl (.pt rfl rfl rfl) sh42 rfl (.cell rfl (.pt rfl rfl rfl) sh50 rfl (.tmp rfl .nil))) (HK.le ⟨rfl, rfl, rfl, rfl, rfl, trivial⟩) ?_)
  exact ⟨(x66, x64.2.1, x64.2.2), (), rfl, rfl, rfl⟩
  rintro y _ ⟨⟨y11_1, y11_2, y11_3⟩, _, rfl, hc, rfl⟩
  replace h0 := p2_e h0
  replace h0 := p2_e h0
  subst hc
  refine tr tbk 4 (.mk ?_)
  refine sS ⟨42, 4, true, true, v56, [[lst 3 GLayer.av y11_1.Layers, int y11_1.Pend.a0, int y11_1.Pend.a1, int y11_1.Pend.a2]]⟩ sh42 ?_
  refine sS ⟨50, 3, true, true, v55, [[int y11_2.Qty, int y11_2.Value, int y11_2.Profit]]⟩ sh50 ?_
  refine tr tbk 6 (.mk ?_)
  refine nb tbk h0 fun x67 h0 => ?_
  refine tr tbk 1 (.mk ?_)
  cases x67
  replace h0 := cf h0
  refine tc tbk 3 (.mk ?_)
  refine c_drawE [0, 0, 0, 1, 11, 31, 63] (rl [(0, [5]), (1, [4])] []) (rl [(3, [4]), (4, [])] [4, 5]) (rl [(3, false), (4, false)] true) [0, 1, 2, 3, 4, 5, 6] mixed (by kernel_rfl) ?_; intro K hK
  refine eL sh42 ?_
  refine eL sh50 ?_
  refine eM ?_
  refine de_eff0 rfl rfl rfl rfl (Yield.weak (yl_ob (ob' := (⟨42, 4, true, true, v7, [[lst 3 GLayer.av y11_1.Layers, int y11_1.Pend.a0, int y11_1.Pend.a1, int y11_1.Pend.a2]]⟩ : AObj)) (yl_store rfl sh42 rfl rfl rfl rfl rfl rfl rfl rfl rfl) rfl) (fun _ h => h) (fun _ _ => trivial)) (by rintro _ _ ⟨rfl, rfl⟩; exact ⟨rfl, trivial⟩) ?_; rintro _ _ ⟨rfl, rfl⟩
  refine de_eff0 rfl rfl rfl rfl (Yield.weak (yl_ob (ob' := (⟨50, 3, true, true, v8, [[int y11_2.Qty, int y11_2.Value, int y11_2.Profit]]⟩ : AObj)) (yl_store rfl sh50 rfl rfl rfl rfl rfl rfl rfl rfl rfl) rfl) (fun _ h => h) (fun _ _ => trivial)) (by rintro _ _ ⟨rfl, rfl⟩; exact trivial) ?_; rintro _ _ ⟨rfl, rfl⟩
  iterate 2 refine eA ?_
  refine de_nil (hK _ ?_)
  obtain rfl := nxt_e h0
  refine wR hret (rC sh42 (rC sh50 (rT (rT .nil)))) ?_
  exact .refl _
  replace h0 := ct h0
  refine tc tbk 4 (.mk ?_)
  obtain ⟨x68, e68, h0⟩ := bind_e h0
  refine sC cal96 (d_pool_own_c e68) ?_
  refine tr tbk 2 (.mk ?_)
  refine sS ⟨42, 4, true, true, v7, [[lst 3 GLayer.av x68.Layers, int x68.Pend.a0, int x68.Pend.a1, int x68.Pend.a2]]⟩ sh42 ?_
  refine sS ⟨50, 3, true, true, v8, [[int 0, int 0, int 0]]⟩ sh50 ?_
  refine tr tbk 3 (.mk ?_)
  obtain rfl := nxt_e h0
  refine wR hret (rC sh42 (rC sh50 (rT (rT .nil)))) ?_
  exact .refl _
  replace h0 := ct h0
  refine tc tbk 4 (.mk ?_)
  obtain ⟨x69, e69, h0⟩ := bind_e h0
  refine sC cal96 (d_pool_own_c e69) ?_
  refine tr tbk 1 (.mk ?_)
  refine sS ⟨42, 4, true, true, v7, [[lst 3 GLayer.av x69.Layers, int x69.Pend.a0, int x69.Pend.a1, int x69.Pend.a2]]⟩ sh42 ?_
  refine sS ⟨50, 3, true, true, v8, [[int 0, int 0, int 0]]⟩ sh50 ?_
  refine tr tbk 3 (.mk ?_)
  obtain rfl := nxt_e h0
  refine wR hret (rC sh42 (rC sh50 (rT (rT .nil)))) ?_
  exact .refl _
  replace h0 := selr_r h0
  replace h0 := selr_r h0
  replace h0 := selr_r h0
  replace h0 := selr_r h0
  subst hc
  refine tr tbk 6 (.mk ?_)
  refine sY (yv_ifeq rfl Tryz.underlying135 rfl rfl) ?_
  refine tr tbk 5 (.mk ?_)
  refine jn h0 [3, 4, 7, 10, 11, 12, 13, 14] [1, 2, 3] (fun (a : Bool) (k : Unit) => [(32, boo a)]) (fun a k => []) ⟨fun j70 h1 => ?_, ?_⟩
  refine tc tbk 2 (.mk ?_)
  refine nb tbk h1 fun x71 h1 => ?_
  refine tr tbk 1 (.mk ?_)
  cases x71
  replace h1 := cf h1
  refine tr tbk 1 (.mk ?_)
  refine nb tbk h1 fun x72 h1 => ?_
  refine tr tbk 2 (.mk ?_)
  exact lf h1 () leA
  replace h1 := ct h1
  refine tr tbk 4 (.mk ?_)
  exact lf h1 () leA
  rintro y5_1 _ h0
  cases y5_1
  replace h0 := cf h0
  refine tc tbk 4 (.mk ?_)
  refine sA 4 z50 fun v73 => ?_
  refine tr tbk 3 (.mk ?_)
  refine sA 5 z42 fun v74 => ?_
  refine tr tbk 8 (.mk ?_)
  obtain ⟨j75, h1, h0⟩ := bind_e h0
  refine rse (Out := fun y H' => (∃ (a : Unit) (k : Unit), a = j75 ∧ y = boo false ∧ H' = hk [(1, ⟨42, 4, true, true, v6, [[lst 3 GLayer.av a3.Layers, int a3.Pend.a0, int a3.Pend.a1, int a3.Pend.a2]]⟩), (2, ⟨42, 4, true, true, v7, [[.sc (.slice none 0 0), int 0, int 0, int 0]]⟩), (3, ⟨50, 3, true, true, v8, [[int 0, int 0, int 0]]⟩), (4, ⟨50, 3, true, true, v73, [[int 0, int 0, int 0]]⟩), (5, ⟨42, 4, true, true, v74, [[.sc (.slice none 0 0), int 0, int 0, int 0]]⟩)])) rfl rfl rfl (yl_call rfl rfl (.cons rfl .nil) cal101 ?_) ?_
  refine pcw (c := _) Tryz.func101 rfl rfl ?_; intro Q hret hnorm
  refine tc tbk 7 (.mk ?_)
  refine sY (yv_tassF rfl Tryz.underlying191 rfl rfl rfl zag191) ?_
  refine tr tbk 3 (.mk ?_)
  refine sA 6 z191 fun v76 => ?_
  refine sS ⟨191, 0, true, true, v76, [[]]⟩ sh191 ?_
  refine tr tbk 7 (.mk ?_)
  obtain rfl := nxt_e h1
  refine w_ret (hret _ _ (hk [(1, ⟨42, 4, true, true, v6, [[lst 3 GLayer.av a3.Layers, int a3.Pend.a0, int a3.Pend.a1, int a3.Pend.a2]]⟩), (2, ⟨42, 4, true, true, v7, [[.sc (.slice none 0 0), int 0, int 0, int 0]]⟩), (3, ⟨50, 3, true, true, v8, [[int 0, int 0, int 0]]⟩), (4, ⟨50, 3, true, true, v73, [[int 0, int 0, int 0]]⟩), (5, ⟨42, 4, true, true, v74, [[.sc (.slice none 0 0), int 0, int 0, int 0]]⟩)]) (.tmp rfl .nil) (HK.le ⟨rfl, rfl, rfl, rfl, rfl, trivial⟩) ?_)
  exact ⟨(), (), rfl, rfl, rfl⟩
  rintro y _ ⟨_, _, rfl, hc, rfl⟩
  subst hc
  refine tr tbk 16 (.mk ?_)
  obtain ⟨j77, h1, h0⟩ := bind_e h0
  refine rse (Out := fun y H' => (∃ (a : GPool × GLayer × Int) (k : Unit), a = j77 ∧ y = .tup [.agg [lst 3 GLayer.av a.1.Layers, int a.1.Pend.a0, int a.1.Pend.a1, int a.1.Pend.a2], .agg [int a.2.1.Qty, int a.2.1.Value, int a.2.1.Profit], int a.2.2] ∧ H' = hk [(1, ⟨42, 4, true, true, v6, [[lst 3 GLayer.av a3.Layers, int a3.Pend.a0, int a3.Pend.a1, int a3.Pend.a2]]⟩), (2, ⟨42, 4, true, true, v7, [[.sc (.slice none 0 0), int 0, int 0, int 0]]⟩), (3, ⟨50, 3, true, true, v8, [[int 0, int 0, int 0]]⟩), (4, ⟨50, 3, true, true, v73, [[int 0, int 0, int 0]]⟩), (5, ⟨42, 4, true, true, v74, [[.sc (.slice none 0 0), int 0, int 0, int 0]]⟩)])) rfl rfl rfl (yl_callI rfl rfl mth189_266 (.cons rfl (.cons rfl .nil)) cal266 ?_) ?_
  refine pcw (c := _) Tryz.func266 rfl rfl ?_; intro Q hret hnorm
  refine tc tbk 2 (.mk ?_)
  refine sB 25 fun v78 => ?_
  refine sB 26 fun v79 => ?_
  refine sA 27 z42 fun v80 => ?_
  refine sA 28 z50 fun v81 => ?_
  refine tr tbk 7 (.mk ?_)
  obtain ⟨x82, e82, h1⟩ := bind_e h1
  refine sC cal268 (d_fifo_Out_c e82) ?_
  refine tr tbk 4 (.mk ?_)
  refine sA 29 z50 fun v83 => ?_
  refine tr tbk 1 (.mk ?_)
  refine sS ⟨50, 3, true, true, v83, [[int x82.2.1.Qty, int x82.2.1.Value, int x82.2.1.Profit]]⟩ sh50 ?_
  refine tr tbk 3 (.mk ?_)
  refine c_drawE [0, 0, 3, 0, 0, 7, 47, 127] (rl [(0, [26]), (3, [29])] []) (rl [(5, [29]), (6, [])] [26, 29]) (rl [(5, false), (6, false)] true) [0, 1, 2, 3, 4, 5, 6, 7] mixed (by kernel_rfl) ?_; intro K hK
  refine eL sh42 ?_
  refine eM ?_
  obtain ⟨x84, e84, h1⟩ := bind_e h1
  refine eP (fun H hH => yv_callP rfl rfl (.cons rfl (.cons rfl .nil)) cal146 (CvL.refl _) (d_pool_with_c e84)) ?_
  refine eL sh50 ?_
  refine eM ?_
  refine de_eff0 rfl rfl rfl rfl (Yield.weak (yl_ob (ob' := (⟨42, 4, true, true, v80, [[lst 3 GLayer.av x84.Layers, int x84.Pend.a0, int x84.Pend.a1, int x84.Pend.a2]]⟩ : AObj)) (yl_store rfl sh42 rfl rfl rfl rfl rfl rfl rfl rfl rfl) rfl) (fun _ h => h) (fun _ _ => trivial)) (by rintro _ _ ⟨rfl, rfl⟩; exact ⟨rfl, trivial⟩) ?_; rintro _ _ ⟨rfl, rfl⟩
  refine de_eff0 rfl rfl rfl rfl (Yield.weak (yl_ob (ob' := (⟨50, 3, true, true, v81, [[int x82.2.1.Qty, int x82.2.1.Value, int x82.2.1.Profit]]⟩ : AObj)) (yl_store rfl sh50 rfl rfl rfl rfl rfl rfl rfl rfl rfl) rfl) (fun _ h => h) (fun _ _ => trivial)) (by rintro _ _ ⟨rfl, rfl⟩; exact trivial) ?_; rintro _ _ ⟨rfl, rfl⟩
  refine eA ?_
  refine de_nil (hK _ ?_)
  obtain rfl := nxt_e h1
  refine w_ret (hret _ _ (hk [(1, ⟨42, 4, true, true, v6, [[lst 3 GLayer.av a3.Layers, int a3.Pend.a0, int a3.Pend.a1, int a3.Pend.a2]]⟩), (2, ⟨42, 4, true, true, v7, [[.sc (.slice none 0 0), int 0, int 0, int 0]]⟩), (3, ⟨50, 3, true, true, v8, [[int 0, int 0, int 0]]⟩), (4, ⟨50, 3, true, true, v73, [[int 0, int 0, int 0]]⟩), (5, ⟨42, 4, true, true, v74, [[.sc (.slice none 0 0), int 0, int 0, int 0]]⟩)]) (.cell rfl (.pt rfl rfl rfl) sh42 rfl (.cell rfl (.pt rfl rfl rfl) sh50 rfl (.tmp rfl .nil))) (HK.le ⟨rfl, rfl, rfl, rfl, rfl, trivial⟩) ?_)
  exact ⟨(x84, x82.2.1, x82.2.2), (), rfl, rfl, rfl⟩
  rintro y _ ⟨⟨y12_1, y12_2, y12_3⟩, _, rfl, hc, rfl⟩
  replace h0 := p2_e h0
  replace h0 := p2_e h0
  subst hc
  refine tr tbk 4 (.mk ?_)
  refine sS ⟨42, 4, true, true, v74, [[lst 3 GLayer.av y12_1.Layers, int y12_1.Pend.a0, int y12_1.Pend.a1, int y12_1.Pend.a2]]⟩ sh42 ?_
  refine sS ⟨50, 3, true, true, v73, [[int y12_2.Qty, int y12_2.Value, int y12_2.Profit]]⟩ sh50 ?_
  refine tr tbk 6 (.mk ?_)
  refine nb tbk h0 fun x85 h0 => ?_
  refine tr tbk 1 (.mk ?_)
  cases x85
  replace h0 := cf h0
  refine tc tbk 3 (.mk ?_)
  refine c_drawE [0, 0, 0, 1, 11, 31, 63] (rl [(0, [5]), (1, [4])] []) (rl [(3, [4]), (4, [])] [4, 5]) (rl [(3, false), (4, false)] true) [0, 1, 2, 3, 4, 5, 6] mixed (by kernel_rfl) ?_; intro K hK
  refine eL sh42 ?_
  refine eL sh50 ?_
  refine eM ?_
  refine de_eff0 rfl rfl rfl rfl (Yield.weak (yl_ob (ob' := (⟨42, 4, true, true, v7, [[lst 3 GLayer.av y12_1.Layers, int y12_1.Pend.a0, int y12_1.Pend.a1, int y12_1.Pend.a2]]⟩ : AObj)) (yl_store rfl sh42 rfl rfl rfl rfl rfl rfl rfl rfl rfl) rfl) (fun _ h => h) (fun _ _ => trivial)) (by rintro _ _ ⟨rfl, rfl⟩; exact ⟨rfl, trivial⟩) ?_; rintro _ _ ⟨rfl, rfl⟩
  refine de_eff0 rfl rfl rfl rfl (Yield.weak (yl_ob (ob' := (⟨50, 3, true, true, v8, [[int y12_2.Qty, int y12_2.Value, int y12_2.Profit]]⟩ : AObj)) (yl_store rfl sh50 rfl rfl rfl rfl rfl rfl rfl rfl rfl) rfl) (fun _ h => h) (fun _ _ => trivial)) (by rintro _ _ ⟨rfl, rfl⟩; exact trivial) ?_; rintro _ _ ⟨rfl, rfl⟩
  iterate 2 refine eA ?_
  refine de_nil (hK _ ?_)
  obtain rfl := nxt_e h0
  refine wR hret (rC sh42 (rC sh50 (rT (rT .nil)))) ?_
  exact .refl _
  replace h0 := ct h0
  refine tc tbk 4 (.mk ?_)
  obtain ⟨x86, e86, h0⟩ := bind_e h0
  refine sC cal96 (d_pool_own_c e86) ?_
  refine tr tbk 2 (.mk ?_)
  refine sS ⟨42, 4, true, true, v7, [[lst 3 GLayer.av x86.Layers, int x86.Pend.a0, int x86.Pend.a1, int x86.Pend.a2]]⟩ sh42 ?_
  refine sS ⟨50, 3, true, true, v8, [[int 0, int 0, int 0]]⟩ sh50 ?_
  refine tr tbk 3 (.mk ?_)
  obtain rfl := nxt_e h0
  refine wR hret (rC sh42 (rC sh50 (rT (rT .nil)))) ?_
  exact .refl _
  replace h0 := ct h0
  refine tc tbk 4 (.mk ?_)
  obtain ⟨x87, e87, h0⟩ := bind_e h0
  refine sC cal96 (d_pool_own_c e87) ?_
  refine tr tbk 1 (.mk ?_)
  refine sS ⟨42, 4, true, true, v7, [[lst 3 GLayer.av x87.Layers, int x87.Pend.a0, int x87.Pend.a1, int x87.Pend.a2]]⟩ sh42 ?_
  refine sS ⟨50, 3, true, true, v8, [[int 0, int 0, int 0]]⟩ sh50 ?_
  refine tr tbk 3 (.mk ?_)
  obtain rfl := nxt_e h0
  refine wR hret (rC sh42 (rC sh50 (rT (rT .nil)))) ?_
  exact .refl _
end Go.Pv
