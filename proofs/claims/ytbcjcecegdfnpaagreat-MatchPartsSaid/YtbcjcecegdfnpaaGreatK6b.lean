import Derived.Test.YtbcjcecegdfnpaaGreatK6
set_option linter.unusedVariables false
namespace Go.Pv
open Go.Proofs
set_option maxRecDepth 10000
set_option maxHeartbeats 1000000
def d_ref14_Turn (a1 : GState) (a2 : Int) (a3 : Int) (a4 : GRoll) : Option (GState × Int) :=
(d_ref14_there a1 a2 a3).bind fun x8 =>
bnd (!x8) fun x9 =>
cond x9 (some ((a1 : GState), (4 : Int))) ((ix a1.Ents a2).bind fun x10 =>
(ix x10.Rolls a3).bind fun x11 =>
(d_ref14_Numbers x11).bind fun x12 =>
(d_ref14_Numbers a4).bind fun x13 =>
(show Option ((Int × Int × Int × Int × Int × Int × Int × Int × Int × Int × Int) ⊕ (GState × Int)) from
(d_ref01_Add x12.a0 x13.a0).bind fun x17 =>
bnd (decide (x17.2 ≠ 0)) fun x18 =>
cond x18 (esc (some ((a1 : GState), (x17.2 : Int)))) ((d_ref01_Add x12.a1 x13.a1).bind fun x19 =>
bnd (decide (x19.2 ≠ 0)) fun x20 =>
cond x20 (esc (some ((a1 : GState), (x19.2 : Int)))) ((d_ref01_Add x12.a2 x13.a2).bind fun x21 =>
bnd (decide (x21.2 ≠ 0)) fun x22 =>
cond x22 (esc (some ((a1 : GState), (x21.2 : Int)))) ((d_ref01_Add x12.a3 x13.a3).bind fun x23 =>
bnd (decide (x23.2 ≠ 0)) fun x24 =>
cond x24 (esc (some ((a1 : GState), (x23.2 : Int)))) ((d_ref01_Add x12.a4 x13.a4).bind fun x25 =>
bnd (decide (x25.2 ≠ 0)) fun x26 =>
cond x26 (esc (some ((a1 : GState), (x25.2 : Int)))) ((d_ref01_Add x12.a5 x13.a5).bind fun x27 =>
bnd (decide (x27.2 ≠ 0)) fun x28 =>
cond x28 (esc (some ((a1 : GState), (x27.2 : Int)))) ((d_ref01_Add x12.a6 x13.a6).bind fun x29 =>
bnd (decide (x29.2 ≠ 0)) fun x30 =>
cond x30 (esc (some ((a1 : GState), (x29.2 : Int)))) ((d_ref01_Add x12.a7 x13.a7).bind fun x31 =>
bnd (decide (x31.2 ≠ 0)) fun x32 =>
cond x32 (esc (some ((a1 : GState), (x31.2 : Int)))) ((d_ref01_Add x12.a8 x13.a8).bind fun x33 =>
bnd (decide (x33.2 ≠ 0)) fun x34 =>
cond x34 (esc (some ((a1 : GState), (x33.2 : Int)))) ((d_ref01_Add x12.a9 x13.a9).bind fun x35 =>
bnd (decide (x35.2 ≠ 0)) fun x36 =>
cond x36 (esc (some ((a1 : GState), (x35.2 : Int)))) ((d_ref01_Add x12.a10 x13.a10).bind fun x37 =>
bnd (decide (x37.2 ≠ 0)) fun x38 =>
cond x38 (esc (some ((a1 : GState), (x37.2 : Int)))) (brk ((x17.1 : Int), (x19.1 : Int), (x21.1 : Int), (x23.1 : Int), (x25.1 : Int), (x27.1 : Int), (x29.1 : Int), (x31.1 : Int), (x33.1 : Int), (x35.1 : Int), (x37.1 : Int)))))))))))))).bind <| sel <| p2 fun (y0_1 : Int) (q0 : Int × Int × Int × Int × Int × Int × Int × Int × Int × Int) => (p2 fun (y0_2 : Int) (q1 : Int × Int × Int × Int × Int × Int × Int × Int × Int) => (p2 fun (y0_3 : Int) (q2 : Int × Int × Int × Int × Int × Int × Int × Int) => (p2 fun (y0_4 : Int) (q3 : Int × Int × Int × Int × Int × Int × Int) => (p2 fun (y0_5 : Int) (q4 : Int × Int × Int × Int × Int × Int) => (p2 fun (y0_6 : Int) (q5 : Int × Int × Int × Int × Int) => (p2 fun (y0_7 : Int) (q6 : Int × Int × Int × Int) => (p2 fun (y0_8 : Int) (q7 : Int × Int × Int) => (p2 fun (y0_9 : Int) (q8 : Int × Int) => (p2 fun (y0_10 : Int) (y0_11 : Int) =>
(show Option ((Int × Bool × (List GEnt) × (List GPool) × (List Int) × (List GRoll) × (List Int) × (List Int))) from
asrt (a1.Ents.length ≤ 68719476736) <|
(ix a1.Ents a2).bind fun x55 =>
asrt (x55.Pools.length ≤ 68719476736) <|
asrt (x55.Bal.length ≤ 68719476736) <|
asrt (x55.Rolls.length ≤ 68719476736) <|
asrt (x55.Prices.length ≤ 68719476736) <|
asrt (x55.Down.length ≤ 68719476736) <|
some ((x55.Now : Int), (x55.Closed : Bool), (x55.Ahead : List GEnt), (x55.Pools : List GPool), (x55.Bal : List Int), (x55.Rolls : List GRoll), (x55.Prices : List Int), (x55.Down : List Int))).bind <| p2 fun (y1_2 : Int) (q0 : Bool × (List GEnt) × (List GPool) × (List Int) × (List GRoll) × (List Int) × (List Int)) => (p2 fun (y1_3 : Bool) (q1 : (List GEnt) × (List GPool) × (List Int) × (List GRoll) × (List Int) × (List Int)) => (p2 fun (y1_9 : List GEnt) (q2 : (List GPool) × (List Int) × (List GRoll) × (List Int) × (List Int)) => (p2 fun (y1_10 : List GPool) (q3 : (List Int) × (List GRoll) × (List Int) × (List Int)) => (p2 fun (y1_11 : List Int) (q4 : (List GRoll) × (List Int) × (List Int)) => (p2 fun (y1_12 : List GRoll) (q5 : (List Int) × (List Int)) => (p2 fun (y1_13 : List Int) (y1_14 : List Int) =>
(ix a1.Ents a2).bind fun x66 =>
(d_ref14_Roll (⟨y0_1, y0_2, y0_3, y0_4, y0_5, y0_6, y0_7, y0_8, y0_9, y0_10, y0_11⟩ : A11_Int)).bind fun x68 =>
(ix y1_12 a3).bind fun x69 =>
bnd (y1_12.set (Int.toNat a3) (x68 : GRoll)) fun x70 =>
some (((⟨a1.Master, (a1.Ents.set (Int.toNat a2) (⟨y1_2, y1_3, y1_10, y1_11, x70, y1_13, y1_14, y1_9⟩ : GEnt)), a1.Receipts, a1.Sales, a1.Transits, a1.Done⟩ : GState) : GState), (0 : Int))) q5) q4) q3) q2) q1) q0) q8) q7) q6) q5) q4) q3) q2) q1) q0)
theorem d_ref14_Turn_c {a1 : GState} {a2 : Int} {a3 : Int} {a4 : GRoll} {r : GState × Int} (h0 : d_ref14_Turn a1 a2 a3 a4 = some r) : PP Tryz.prog 60 [.agg (GState.av a1), int a2, int a3, .agg (GRoll.av a4)] (fun y => y = .tup [.agg (GState.av r.1), int r.2]) := by
  unfold d_ref14_Turn at h0
  refine pp_of_pc (R0 := fun y H => Cv (frzH H) y (.tup [.agg (GState.av r.1), int r.2])) ?_ (fun y H hc => ⟨_, rfl, .tup (pvl2 ((fun (a : GState) => PV.agg (GState.pvc a)) (r.1)) (pvI (r.2))), hc⟩)
  refine pcw (c := _) Tryz.func60 rfl rfl ?_; intro Q hret hnorm
  refine tc tbk 2 (.mk ?_)
  refine rse rfl rfl rfl (yl_box 1 .any rfl rfl rfl) ?_; rintro _ _ ⟨v5, -, rfl, rfl⟩
  refine rse rfl rfl rfl (yl_box 2 .any rfl rfl rfl) ?_; rintro _ _ ⟨v6, -, rfl, rfl⟩
  refine rse rfl rfl rfl (yl_alloc 3 .any rfl z32 rfl) ?_; rintro _ _ ⟨v7, -, rfl, rfl⟩
  refine tr tbk 8 (.mk ?_)
  obtain ⟨x8, e8, h0⟩ := bind_e h0
  refine rst rfl rfl rfl (yv_callP rfl rfl (.cons rfl (.cons rfl (.cons rfl .nil))) cal65 (CvL.refl _) (d_ref14_there_c e8)) ?_
  refine nb tbk h0 fun x9 h0 => ?_
  refine tr tbk 1 (.mk ?_)
  cases x9
  replace h0 := cf h0
  refine tc tbk 3 (.mk ?_)
  refine c_draw [0, 1, 0, 7, 15, 31, 0, 127, 255, 511, 0, 2047, 0, 0, 16383, 32767] (fun i k => bif Nat.beq i 0 then (Nat.beq k 1) else bif Nat.beq i 1 then (Nat.beq k 1) else bif Nat.beq i 10 then (Nat.beq k 2) else bif Nat.beq i 14 then (Nat.beq k 4) else bif Nat.beq i 15 then (Nat.beq k 5) else false) (fun i => bif Nat.beq i 12 then (some 4) else bif Nat.beq i 13 then (some 5) else bif Nat.beq i 14 then (some 4) else bif Nat.beq i 15 then (some 5) else none) mixed (by kernel_rfl) ?_; intro C K hK
  refine dg_pure rfl (fun H hH => yv_fieldAddr rfl fo32_1 rfl (.pt ((hH _ rfl).trans rfl) rfl rfl) (.pt _ _ _ _ _)) ?_
  refine dg_pure rfl (fun H hH => yv_load rfl sh27 rfl (.pt ((hH _ rfl).trans rfl) rfl rfl) rfl) ?_
  refine dg_pure rfl (fun H hH => yv_move rfl rfl) ?_
  obtain ⟨x10, e10, h0⟩ := bind_e h0
  refine dg_pure rfl (fun H hH => yv_to (y := .pp [int x10.Now, boo x10.Closed, lst 4 GPool.av x10.Pools, lst 1 fI x10.Bal, lst 11 GRoll.av x10.Rolls, lst 1 fI x10.Prices, lst 1 fI x10.Down, lst 8 GEnt.av x10.Ahead]) (yv_ixT rfl Tryz.underlying27 sh42 rfl rfl e10) (congrArg AV.pp (GEnt.av_eq x10))) ?_
  refine dg_pure rfl (fun H hH => yv_fieldAddr rfl fo42_4 rfl (.pp _) (.pp _ _)) ?_
  refine dg_pure rfl (fun H hH => yv_load rfl sh40 rfl (.pp _) rfl) ?_
  refine dg_pure rfl (fun H hH => yv_move rfl rfl) ?_
  obtain ⟨x11, e11, h0⟩ := bind_e h0
  refine dg_pure rfl (fun H hH => yv_ixT rfl Tryz.underlying40 sh49 rfl rfl e11) ?_
  refine dg_pure rfl (fun H hH => yv_load rfl sh49 rfl (.pp _) rfl) ?_
  obtain ⟨x12, e12, h0⟩ := bind_e h0
  refine dg_pure rfl (fun H hH => yv_callP rfl rfl (.cons rfl .nil) cal89 (CvL.refl _) (d_ref14_Numbers_c e12)) ?_
  refine dg_pure rfl (fun H hH => yv_load rfl sh49 rfl (.pt ((hH _ rfl).trans rfl) rfl rfl) rfl) ?_
  obtain ⟨x13, e13, h0⟩ := bind_e h0
  refine dg_pure rfl (fun H hH => yv_callP rfl rfl (.cons rfl .nil) cal89 (CvL.refl _) (d_ref14_Numbers_c e13)) ?_
  refine dg_eff rfl rfl (fun H hH => yl_alloc1 4 rfl z126 rfl) ?_; generalize C + 12 = v14
  refine dg_eff rfl rfl (fun H hH => yl_alloc1 5 rfl z126 rfl) ?_; generalize C + 13 = v15
  refine dg_store rfl rfl rfl (fun H hH => yl_ob (ob' := (⟨126, 11, true, true, v14, [[int x12.a0, int x12.a1, int x12.a2, int x12.a3, int x12.a4, int x12.a5, int x12.a6, int x12.a7, int x12.a8, int x12.a9, int x12.a10]]⟩ : AObj)) (yl_store rfl sh126 rfl rfl ((hH _ rfl).trans rfl) rfl rfl rfl rfl rfl rfl) rfl) ?_
  refine dg_store rfl rfl rfl (fun H hH => yl_ob (ob' := (⟨126, 11, true, true, v15, [[int x13.a0, int x13.a1, int x13.a2, int x13.a3, int x13.a4, int x13.a5, int x13.a6, int x13.a7, int x13.a8, int x13.a9, int x13.a10]]⟩ : AObj)) (yl_store rfl sh126 rfl rfl ((hH _ rfl).trans rfl) rfl rfl rfl rfl rfl rfl) rfl) ?_
  refine dg_nil (hK _ ?_)
  refine tc tbk 5 (.mk ?_)
  refine jnE h0 [1, 2, 4, 8, 9, 10] [1, 3] (fun (a : Int × Int × Int × Int × Int × Int × Int × Int × Int × Int × Int) (k : Unit) => []) (fun a k => [(4, ⟨126, 11, true, true, v14, [[int a.1, int a.2.1, int a.2.2.1, int a.2.2.2.1, int a.2.2.2.2.1, int a.2.2.2.2.2.1, int a.2.2.2.2.2.2.1, int a.2.2.2.2.2.2.2.1, int a.2.2.2.2.2.2.2.2.1, int a.2.2.2.2.2.2.2.2.2.1, int a.2.2.2.2.2.2.2.2.2.2]]⟩)]) ⟨fun j16 h1 h0 => ?_, ?_⟩
  refine tc tbk 6 (.mk ?_)
  refine rst rfl rfl rfl (yv_to (y := boo true) (yv_lss rfl rfl rfl) (congrArg boo (by decide))) ?_
  refine tr tbk 6 (.mk ?_)
  refine c_drawE [0, 1, 3, 0, 8, 24, 63, 127, 255, 255, 511, 2047] (rl [(1, [4]), (2, [4]), (4, [5]), (5, [5])] []) (fun i => [4, 5]) (fun i => true) [0, 1, 2, 3, 4, 5, 6, 7, 8, 9, 10, 11] mixed (by kernel_rfl) ?_; intro K hK
  refine eM ?_
  refine de_pure rfl rfl rfl rfl (fun H hH => yv_to (y := .pt 4 v14 0 0) (yv_indexAddrA rfl Tryz.underlying126 sh3 rfl rfl ((hH _ (by decide)).trans rfl) rfl rfl (by decide)) rfl) ?_
  refine eL sh3 ?_
  refine eM ?_
  refine de_pure rfl rfl rfl rfl (fun H hH => yv_to (y := .pt 5 v15 0 0) (yv_indexAddrA rfl Tryz.underlying126 sh3 rfl rfl ((hH _ (by decide)).trans rfl) rfl rfl (by decide)) rfl) ?_
  refine eL sh3 ?_
  obtain ⟨x17, e17, h1⟩ := bind_e h1
  refine eP (fun H hH => yv_callP rfl rfl (.cons rfl (.cons rfl .nil)) cal90 (CvL.refl _) (d_ref01_Add_c e17)) ?_
  refine eM ?_
  iterate 2 refine eX ?_
  iterate 2 refine eA ?_
  refine de_nil (hK _ ?_)
  refine tc tbk 4 (.mk ?_)
  refine nb tbk h1 fun x18 h1 => ?_
  refine tr tbk 1 (.mk ?_)
  cases x18
  replace h1 := cf h1
  refine tc tbk 5 (.mk ?_)
  refine rst rfl rfl rfl (yv_to (y := .pt 4 v14 0 0) (yv_indexAddrA rfl Tryz.underlying126 sh3 rfl rfl rfl rfl rfl (by decide)) rfl) ?_
  refine sS ⟨126, 11, true, true, v14, [[int x17.1, int x12.a1, int x12.a2, int x12.a3, int x12.a4, int x12.a5, int x12.a6, int x12.a7, int x12.a8, int x12.a9, int x12.a10]]⟩ sh3 ?_
  refine tr tbk 4 (.mk ?_)
  refine rst rfl rfl rfl (yv_add (r := 1) rfl rfl rfl (by decide)) ?_
  refine tr tbk 7 (.mk ?_)
  refine rst rfl rfl rfl (yv_to (y := boo true) (yv_lss rfl rfl rfl) (congrArg boo (by decide))) ?_
  refine tr tbk 6 (.mk ?_)
  refine c_drawE [0, 1, 3, 0, 8, 24, 63, 127, 255, 255, 511, 2047] (rl [(1, [4]), (2, [4]), (4, [5]), (5, [5])] []) (fun i => [4, 5]) (fun i => true) [0, 1, 2, 3, 4, 5, 6, 7, 8, 9, 10, 11] mixed (by kernel_rfl) ?_; intro K hK
  refine eM ?_
  refine de_pure rfl rfl rfl rfl (fun H hH => yv_to (y := .pt 4 v14 0 1) (yv_indexAddrA rfl Tryz.underlying126 sh3 rfl rfl ((hH _ (by decide)).trans rfl) rfl rfl (by decide)) rfl) ?_
  refine eL sh3 ?_
  refine eM ?_
  refine de_pure rfl rfl rfl rfl (fun H hH => yv_to (y := .pt 5 v15 0 1) (yv_indexAddrA rfl Tryz.underlying126 sh3 rfl rfl ((hH _ (by decide)).trans rfl) rfl rfl (by decide)) rfl) ?_
  refine eL sh3 ?_
  obtain ⟨x19, e19, h1⟩ := bind_e h1
  refine eP (fun H hH => yv_callP rfl rfl (.cons rfl (.cons rfl .nil)) cal90 (CvL.refl _) (d_ref01_Add_c e19)) ?_
  refine eM ?_
  iterate 2 refine eX ?_
  iterate 2 refine eA ?_
  refine de_nil (hK _ ?_)
  refine tc tbk 4 (.mk ?_)
  refine nb tbk h1 fun x20 h1 => ?_
  refine tr tbk 1 (.mk ?_)
  cases x20
  replace h1 := cf h1
  refine tc tbk 5 (.mk ?_)
  refine rst rfl rfl rfl (yv_to (y := .pt 4 v14 0 1) (yv_indexAddrA rfl Tryz.underlying126 sh3 rfl rfl rfl rfl rfl (by decide)) rfl) ?_
  refine sS ⟨126, 11, true, true, v14, [[int x17.1, int x19.1, int x12.a2, int x12.a3, int x12.a4, int x12.a5, int x12.a6, int x12.a7, int x12.a8, int x12.a9, int x12.a10]]⟩ sh3 ?_
  refine tr tbk 4 (.mk ?_)
  refine rst rfl rfl rfl (yv_add (r := 2) rfl rfl rfl (by decide)) ?_
  refine tr tbk 7 (.mk ?_)
  refine rst rfl rfl rfl (yv_to (y := boo true) (yv_lss rfl rfl rfl) (congrArg boo (by decide))) ?_
  refine tr tbk 6 (.mk ?_)
  refine c_drawE [0, 1, 3, 0, 8, 24, 63, 127, 255, 255, 511, 2047] (rl [(1, [4]), (2, [4]), (4, [5]), (5, [5])] []) (fun i => [4, 5]) (fun i => true) [0, 1, 2, 3, 4, 5, 6, 7, 8, 9, 10, 11] mixed (by kernel_rfl) ?_; intro K hK
  refine eM ?_
  refine de_pure rfl rfl rfl rfl (fun H hH => yv_to (y := .pt 4 v14 0 2) (yv_indexAddrA rfl Tryz.underlying126 sh3 rfl rfl ((hH _ (by decide)).trans rfl) rfl rfl (by decide)) rfl) ?_
  refine eL sh3 ?_
  refine eM ?_
  refine de_pure rfl rfl rfl rfl (fun H hH => yv_to (y := .pt 5 v15 0 2) (yv_indexAddrA rfl Tryz.underlying126 sh3 rfl rfl ((hH _ (by decide)).trans rfl) rfl rfl (by decide)) rfl) ?_
  refine eL sh3 ?_
  obtain ⟨x21, e21, h1⟩ := bind_e h1
  refine eP (fun H hH => yv_callP rfl rfl (.cons rfl (.cons rfl .nil)) cal90 (CvL.refl _) (d_ref01_Add_c e21)) ?_
  refine eM ?_
  iterate 2 refine eX ?_
  iterate 2 refine eA ?_
  refine de_nil (hK _ ?_)
  refine tc tbk 4 (.mk ?_)
  refine nb tbk h1 fun x22 h1 => ?_
  refine tr tbk 1 (.mk ?_)
  cases x22
  replace h1 := cf h1
  refine tc tbk 5 (.mk ?_)
  refine rst rfl rfl rfl (yv_to (y := .pt 4 v14 0 2) (yv_indexAddrA rfl Tryz.underlying126 sh3 rfl rfl rfl rfl rfl (by decide)) rfl) ?_
  refine sS ⟨126, 11, true, true, v14, [[int x17.1, int x19.1, int x21.1, int x12.a3, int x12.a4, int x12.a5, int x12.a6, int x12.a7, int x12.a8, int x12.a9, int x12.a10]]⟩ sh3 ?_
  refine tr tbk 4 (.mk ?_)
  refine rst rfl rfl rfl (yv_add (r := 3) rfl rfl rfl (by decide)) ?_
  refine tr tbk 7 (.mk ?_)
  refine rst rfl rfl rfl (yv_to (y := boo true) (yv_lss rfl rfl rfl) (congrArg boo (by decide))) ?_
  refine tr tbk 6 (.mk ?_)
  refine c_drawE [0, 1, 3, 0, 8, 24, 63, 127, 255, 255, 511, 2047] (rl [(1, [4]), (2, [4]), (4, [5]), (5, [5])] []) (fun i => [4, 5]) (fun i => true) [0, 1, 2, 3, 4, 5, 6, 7, 8, 9, 10, 11] mixed (by kernel_rfl) ?_; intro K hK
  refine eM ?_
  refine de_pure rfl rfl rfl rfl (fun H hH => yv_to (y := .pt 4 v14 0 3) (yv_indexAddrA rfl Tryz.underlying126 sh3 rfl rfl ((hH _ (by decide)).trans rfl) rfl rfl (by decide)) rfl) ?_
  refine eL sh3 ?_
  refine eM ?_
  refine de_pure rfl rfl rfl rfl (fun H hH => yv_to (y := .pt 5 v15 0 3) (yv_indexAddrA rfl Tryz.underlying126 sh3 rfl rfl ((hH _ (by decide)).trans rfl) rfl rfl (by decide)) rfl) ?_
  refine eL sh3 ?_
  obtain ⟨x23, e23, h1⟩ := bind_e h1
  refine eP (fun H hH => yv_callP rfl rfl (.cons rfl (.cons rfl .nil)) cal90 (CvL.refl _) (d_ref01_Add_c e23)) ?_
  refine eM ?_
  iterate 2 refine eX ?_
  iterate 2 refine eA ?_
  refine de_nil (hK _ ?_)
  refine tc tbk 4 (.mk ?_)
  refine nb tbk h1 fun x24 h1 => ?_
  refine tr tbk 1 (.mk ?_)
  cases x24
  replace h1 := cf h1
  refine tc tbk 5 (.mk ?_)
  refine rst rfl rfl rfl (yv_to (y := .pt 4 v14 0 3) (yv_indexAddrA rfl Tryz.underlying126 sh3 rfl rfl rfl rfl rfl (by decide)) rfl) ?_
  refine sS ⟨126, 11, true, true, v14, [[int x17.1, int x19.1, int x21.1, int x23.1, int x12.a4, int x12.a5, int x12.a6, int x12.a7, int x12.a8, int x12.a9, int x12.a10]]⟩ sh3 ?_
  refine tr tbk 4 (.mk ?_)
  refine rst rfl rfl rfl (yv_add (r := 4) rfl rfl rfl (by decide)) ?_
  refine tr tbk 7 (.mk ?_)
  refine rst rfl rfl rfl (yv_to (y := boo true) (yv_lss rfl rfl rfl) (congrArg boo (by decide))) ?_
  refine tr tbk 6 (.mk ?_)
  refine c_drawE [0, 1, 3, 0, 8, 24, 63, 127, 255, 255, 511, 2047] (rl [(1, [4]), (2, [4]), (4, [5]), (5, [5])] []) (fun i => [4, 5]) (fun i => true) [0, 1, 2, 3, 4, 5, 6, 7, 8, 9, 10, 11] mixed (by kernel_rfl) ?_; intro K hK
  refine eM ?_
  refine de_pure rfl rfl rfl rfl (fun H hH => yv_to (y := .pt 4 v14 0 4) (yv_indexAddrA rfl Tryz.underlying126 sh3 rfl rfl ((hH _ (by decide)).trans rfl) rfl rfl (by decide)) rfl) ?_
  refine eL sh3 ?_
  refine eM ?_
  refine de_pure rfl rfl rfl rfl (fun H hH => yv_to (y := .pt 5 v15 0 4) (yv_indexAddrA rfl Tryz.underlying126 sh3 rfl rfl ((hH _ (by decide)).trans rfl) rfl rfl (by decide)) rfl) ?_
  refine eL sh3 ?_
  obtain ⟨x25, e25, h1⟩ := bind_e h1
  refine eP (fun H hH => yv_callP rfl rfl (.cons rfl (.cons rfl .nil)) cal90 (CvL.refl _) (d_ref01_Add_c e25)) ?_
  refine eM ?_
  iterate 2 refine eX ?_
  iterate 2 refine eA ?_
  refine de_nil (hK _ ?_)
  refine tc tbk 4 (.mk ?_)
  refine nb tbk h1 fun x26 h1 => ?_
  refine tr tbk 1 (.mk ?_)
  cases x26
  replace h1 := cf h1
  refine tc tbk 5 (.mk ?_)
  refine rst rfl rfl rfl (yv_to (y := .pt 4 v14 0 4) (yv_indexAddrA rfl Tryz.underlying126 sh3 rfl rfl rfl rfl rfl (by decide)) rfl) ?_
  refine sS ⟨126, 11, true, true, v14, [[int x17.1, int x19.1, int x21.1, int x23.1, int x25.1, int x12.a5, int x12.a6, int x12.a7, int x12.a8, int x12.a9, int x12.a10]]⟩ sh3 ?_
  refine tr tbk 4 (.mk ?_)
  refine rst rfl rfl rfl (yv_add (r := 5) rfl rfl rfl (by decide)) ?_
  refine tr tbk 7 (.mk ?_)
  refine rst rfl rfl rfl (yv_to (y := boo true) (yv_lss rfl rfl rfl) (congrArg boo (by decide))) ?_
  refine tr tbk 6 (.mk ?_)
  refine c_drawE [0, 1, 3, 0, 8, 24, 63, 127, 255, 255, 511, 2047] (rl [(1, [4]), (2, [4]), (4, [5]), (5, [5])] []) (fun i => [4, 5]) (fun i => true) [0, 1, 2, 3, 4, 5, 6, 7, 8, 9, 10, 11] mixed (by kernel_rfl) ?_; intro K hK
  refine eM ?_
  refine de_pure rfl rfl rfl rfl (fun H hH => yv_to (y := .pt 4 v14 0 5) (yv_indexAddrA rfl Tryz.underlying126 sh3 rfl rfl ((hH _ (by decide)).trans rfl) rfl rfl (by decide)) rfl) ?_
  refine eL sh3 ?_
  refine eM ?_
  refine de_pure rfl rfl rfl rfl (fun H hH => yv_to (y := .pt 5 v15 0 5) (yv_indexAddrA rfl Tryz.underlying126 sh3 rfl rfl ((hH _ (by decide)).trans rfl) rfl rfl (by decide)) rfl) ?_
  refine eL sh3 ?_
  obtain ⟨x27, e27, h1⟩ := bind_e h1
  refine eP (fun H hH => yv_callP rfl rfl (.cons rfl (.cons rfl .nil)) cal90 (CvL.refl _) (d_ref01_Add_c e27)) ?_
  refine eM ?_
  iterate 2 refine eX ?_
  iterate 2 refine eA ?_
  refine de_nil (hK _ ?_)
  refine tc tbk 4 (.mk ?_)
  refine nb tbk h1 fun x28 h1 => ?_
  refine tr tbk 1 (.mk ?_)
  cases x28
  replace h1 := cf h1
  refine tc tbk 5 (.mk ?_)
  refine rst rfl rfl rfl (yv_to (y := .pt 4 v14 0 5) (yv_indexAddrA rfl Tryz.underlying126 sh3 rfl rfl rfl rfl rfl (by decide)) rfl) ?_
  refine sS ⟨126, 11, true, true, v14, [[int x17.1, int x19.1, int x21.1, int x23.1, int x25.1, int x27.1, int x12.a6, int x12.a7, int x12.a8, int x12.a9, int x12.a10]]⟩ sh3 ?_
  refine tr tbk 4 (.mk ?_)
  refine rst rfl rfl rfl (yv_add (r := 6) rfl rfl rfl (by decide)) ?_
  refine tr tbk 7 (.mk ?_)
  refine rst rfl rfl rfl (yv_to (y := boo true) (yv_lss rfl rfl rfl) (congrArg boo (by decide))) ?_
  refine tr tbk 6 (.mk ?_)
  refine c_drawE [0, 1, 3, 0, 8, 24, 63, 127, 255, 255, 511, 2047] (rl [(1, [4]), (2, [4]), (4, [5]), (5, [5])] []) (fun i => [4, 5]) (fun i => true) [0, 1, 2, 3, 4, 5, 6, 7, 8, 9, 10, 11] mixed (by kernel_rfl) ?_; intro K hK
  refine eM ?_
  refine de_pure rfl rfl rfl rfl (fun H hH => yv_to (y := .pt 4 v14 0 6) (yv_indexAddrA rfl Tryz.underlying126 sh3 rfl rfl ((hH _ (by decide)).trans rfl) rfl rfl (by decide)) rfl) ?_
  refine eL sh3 ?_
  refine eM ?_
  refine de_pure rfl rfl rfl rfl (fun H hH => yv_to (y := .pt 5 v15 0 6) (yv_indexAddrA rfl Tryz.underlying126 sh3 rfl rfl ((hH _ (by decide)).trans rfl) rfl rfl (by decide)) rfl) ?_
  refine eL sh3 ?_
  obtain ⟨x29, e29, h1⟩ := bind_e h1
  refine eP (fun H hH => yv_callP rfl rfl (.cons rfl (.cons rfl .nil)) cal90 (CvL.refl _) (d_ref01_Add_c e29)) ?_
  refine eM ?_
  iterate 2 refine eX ?_
  iterate 2 refine eA ?_
  refine de_nil (hK _ ?_)
  refine tc tbk 4 (.mk ?_)
  refine nb tbk h1 fun x30 h1 => ?_
  refine tr tbk 1 (.mk ?_)
  cases x30
  replace h1 := cf h1
  refine tc tbk 5 (.mk ?_)
  refine rst rfl rfl rfl (yv_to (y := .pt 4 v14 0 6) (yv_indexAddrA rfl Tryz.underlying126 sh3 rfl rfl rfl rfl rfl (by decide)) rfl) ?_
  refine sS ⟨126, 11, true, true, v14, [[int x17.1, int x19.1, int x21.1, int x23.1, int x25.1, int x27.1, int x29.1, int x12.a7, int x12.a8, int x12.a9, int x12.a10]]⟩ sh3 ?_
  refine tr tbk 4 (.mk ?_)
  refine rst rfl rfl rfl (yv_add (r := 7) rfl rfl rfl (by decide)) ?_
  refine tr tbk 7 (.mk ?_)
  refine rst rfl rfl rfl (yv_to (y := boo true) (yv_lss rfl rfl rfl) (congrArg boo (by decide))) ?_
  refine tr tbk 6 (.mk ?_)
  refine c_drawE [0, 1, 3, 0, 8, 24, 63, 127, 255, 255, 511, 2047] (rl [(1, [4]), (2, [4]), (4, [5]), (5, [5])] []) (fun i => [4, 5]) (fun i => true) [0, 1, 2, 3, 4, 5, 6, 7, 8, 9, 10, 11] mixed (by kernel_rfl) ?_; intro K hK
  refine eM ?_
  refine de_pure rfl rfl rfl rfl (fun H hH => yv_to (y := .pt 4 v14 0 7) (yv_indexAddrA rfl Tryz.underlying126 sh3 rfl rfl ((hH _ (by decide)).trans rfl) rfl rfl (by decide)) rfl) ?_
  refine eL sh3 ?_
  refine eM ?_
  refine de_pure rfl rfl rfl rfl (fun H hH => yv_to (y := .pt 5 v15 0 7) (yv_indexAddrA rfl Tryz.underlying126 sh3 rfl rfl ((hH _ (by decide)).trans rfl) rfl rfl (by decide)) rfl) ?_
  refine eL sh3 ?_
  obtain ⟨x31, e31, h1⟩ := bind_e h1
  refine eP (fun H hH => yv_callP rfl rfl (.cons rfl (.cons rfl .nil)) cal90 (CvL.refl _) (d_ref01_Add_c e31)) ?_
  refine eM ?_
  iterate 2 refine eX ?_
  iterate 2 refine eA ?_
  refine de_nil (hK _ ?_)
  refine tc tbk 4 (.mk ?_)
  refine nb tbk h1 fun x32 h1 => ?_
  refine tr tbk 1 (.mk ?_)
  cases x32
  replace h1 := cf h1
  refine tc tbk 5 (.mk ?_)
  refine rst rfl rfl rfl (yv_to (y := .pt 4 v14 0 7) (yv_indexAddrA rfl Tryz.underlying126 sh3 rfl rfl rfl rfl rfl (by decide)) rfl) ?_
  refine sS ⟨126, 11, true, true, v14, [[int x17.1, int x19.1, int x21.1, int x23.1, int x25.1, int x27.1, int x29.1, int x31.1, int x12.a8, int x12.a9, int x12.a10]]⟩ sh3 ?_
  refine tr tbk 4 (.mk ?_)
  refine rst rfl rfl rfl (yv_add (r := 8) rfl rfl rfl (by decide)) ?_
  refine tr tbk 7 (.mk ?_)
  refine rst rfl rfl rfl (yv_to (y := boo true) (yv_lss rfl rfl rfl) (congrArg boo (by decide))) ?_
  refine tr tbk 6 (.mk ?_)
  refine c_drawE [0, 1, 3, 0, 8, 24, 63, 127, 255, 255, 511, 2047] (rl [(1, [4]), (2, [4]), (4, [5]), (5, [5])] []) (fun i => [4, 5]) (fun i => true) [0, 1, 2, 3, 4, 5, 6, 7, 8, 9, 10, 11] mixed (by kernel_rfl) ?_; intro K hK
  refine eM ?_
  refine de_pure rfl rfl rfl rfl (fun H hH => yv_to (y := .pt 4 v14 0 8) (yv_indexAddrA rfl Tryz.underlying126 sh3 rfl rfl ((hH _ (by decide)).trans rfl) rfl rfl (by decide)) rfl) ?_
  refine eL sh3 ?_
  refine eM ?_
  refine de_pure rfl rfl rfl rfl (fun H hH => yv_to (y := .pt 5 v15 0 8) (yv_indexAddrA rfl Tryz.underlying126 sh3 rfl rfl ((hH _ (by decide)).trans rfl) rfl rfl (by decide)) rfl) ?_
  refine eL sh3 ?_
  obtain ⟨x33, e33, h1⟩ := bind_e h1
  refine eP (fun H hH => yv_callP rfl rfl (.cons rfl (.cons rfl .nil)) cal90 (CvL.refl _) (d_ref01_Add_c e33)) ?_
  refine eM ?_
  iterate 2 refine eX ?_
  iterate 2 refine eA ?_
  refine de_nil (hK _ ?_)
  refine tc tbk 4 (.mk ?_)
  refine nb tbk h1 fun x34 h1 => ?_
  refine tr tbk 1 (.mk ?_)
  cases x34
  replace h1 := cf h1
  refine tc tbk 5 (.mk ?_)
  refine rst rfl rfl rfl (yv_to (y := .pt 4 v14 0 8) (yv_indexAddrA rfl Tryz.underlying126 sh3 rfl rfl rfl rfl rfl (by decide)) rfl) ?_
  refine sS ⟨126, 11, true, true, v14, [[int x17.1, int x19.1, int x21.1, int x23.1, int x25.1, int x27.1, int x29.1, int x31.1, int x33.1, int x12.a9, int x12.a10]]⟩ sh3 ?_
  refine tr tbk 4 (.mk ?_)
  refine rst rfl rfl rfl (yv_add (r := 9) rfl rfl rfl (by decide)) ?_
  refine tr tbk 7 (.mk ?_)
  refine rst rfl rfl rfl (yv_to (y := boo true) (yv_lss rfl rfl rfl) (congrArg boo (by decide))) ?_
  refine tr tbk 6 (.mk ?_)
  refine c_drawE [0, 1, 3, 0, 8, 24, 63, 127, 255, 255, 511, 2047] (rl [(1, [4]), (2, [4]), (4, [5]), (5, [5])] []) (fun i => [4, 5]) (fun i => true) [0, 1, 2, 3, 4, 5, 6, 7, 8, 9, 10, 11] mixed (by kernel_rfl) ?_; intro K hK
  refine eM ?_
  refine de_pure rfl rfl rfl rfl (fun H hH => yv_to (y := .pt 4 v14 0 9) (yv_indexAddrA rfl Tryz.underlying126 sh3 rfl rfl ((hH _ (by decide)).trans rfl) rfl rfl (by decide)) rfl) ?_
  refine eL sh3 ?_
  refine eM ?_
  refine de_pure rfl rfl rfl rfl (fun H hH => yv_to (y := .pt 5 v15 0 9) (yv_indexAddrA rfl Tryz.underlying126 sh3 rfl rfl ((hH _ (by decide)).trans rfl) rfl rfl (by decide)) rfl) ?_
  refine eL sh3 ?_
  obtain ⟨x35, e35, h1⟩ := bind_e h1
  refine eP (fun H hH => yv_callP rfl rfl (.cons rfl (.cons rfl .nil)) cal90 (CvL.refl _) (d_ref01_Add_c e35)) ?_
  refine eM ?_
  iterate 2 refine eX ?_
  iterate 2 refine eA ?_
  refine de_nil (hK _ ?_)
  refine tc tbk 4 (.mk ?_)
  refine nb tbk h1 fun x36 h1 => ?_
  refine tr tbk 1 (.mk ?_)
  cases x36
  replace h1 := cf h1
  refine tc tbk 5 (.mk ?_)
  refine rst rfl rfl rfl (yv_to (y := .pt 4 v14 0 9) (yv_indexAddrA rfl Tryz.underlying126 sh3 rfl rfl rfl rfl rfl (by decide)) rfl) ?_
  refine sS ⟨126, 11, true, true, v14, [[int x17.1, int x19.1, int x21.1, int x23.1, int x25.1, int x27.1, int x29.1, int x31.1, int x33.1, int x35.1, int x12.a10]]⟩ sh3 ?_
  refine tr tbk 4 (.mk ?_)
  refine rst rfl rfl rfl (yv_add (r := 10) rfl rfl rfl (by decide)) ?_
  refine tr tbk 7 (.mk ?_)
  refine rst rfl rfl rfl (yv_to (y := boo true) (yv_lss rfl rfl rfl) (congrArg boo (by decide))) ?_
  refine tr tbk 6 (.mk ?_)
  refine c_drawE [0, 1, 3, 0, 8, 24, 63, 127, 255, 255, 511, 2047] (rl [(1, [4]), (2, [4]), (4, [5]), (5, [5])] []) (fun i => [4, 5]) (fun i => true) [0, 1, 2, 3, 4, 5, 6, 7, 8, 9, 10, 11] mixed (by kernel_rfl) ?_; intro K hK
  refine eM ?_
  refine de_pure rfl rfl rfl rfl (fun H hH => yv_to (y := .pt 4 v14 0 10) (yv_indexAddrA rfl Tryz.underlying126 sh3 rfl rfl ((hH _ (by decide)).trans rfl) rfl rfl (by decide)) rfl) ?_
  refine eL sh3 ?_
  refine eM ?_
  refine de_pure rfl rfl rfl rfl (fun H hH => yv_to (y := .pt 5 v15 0 10) (yv_indexAddrA rfl Tryz.underlying126 sh3 rfl rfl ((hH _ (by decide)).trans rfl) rfl rfl (by decide)) rfl) ?_
  refine eL sh3 ?_
  obtain ⟨x37, e37, h1⟩ := bind_e h1
  refine eP (fun H hH => yv_callP rfl rfl (.cons rfl (.cons rfl .nil)) cal90 (CvL.refl _) (d_ref01_Add_c e37)) ?_
  refine eM ?_
  iterate 2 refine eX ?_
  iterate 2 refine eA ?_
  refine de_nil (hK _ ?_)
  refine tc tbk 4 (.mk ?_)
  refine nb tbk h1 fun x38 h1 => ?_
  refine tr tbk 1 (.mk ?_)
  cases x38
  replace h1 := cf h1
  refine tc tbk 5 (.mk ?_)
  refine rst rfl rfl rfl (yv_to (y := .pt 4 v14 0 10) (yv_indexAddrA rfl Tryz.underlying126 sh3 rfl rfl rfl rfl rfl (by decide)) rfl) ?_
  refine sS ⟨126, 11, true, true, v14, [[int x17.1, int x19.1, int x21.1, int x23.1, int x25.1, int x27.1, int x29.1, int x31.1, int x33.1, int x35.1, int x37.1]]⟩ sh3 ?_
  refine tr tbk 4 (.mk ?_)
  refine rst rfl rfl rfl (yv_add (r := 11) rfl rfl rfl (by decide)) ?_
  refine tr tbk 7 (.mk ?_)
  refine rst rfl rfl rfl (yv_to (y := boo false) (yv_lss rfl rfl rfl) (congrArg boo (by decide))) ?_
  refine tr tbk 3 (.mk ?_)
  exact lfE h1 () leA
  replace h1 := ct h1
  refine tc tbk 5 (.mk ?_)
  refine sS ⟨32, 10, true, true, v7, [[int a1.Master.Entities, int a1.Master.Periods, lst 1 fI a1.Master.Weights, lst 1 (fL 1 fI) a1.Master.Methods, lst 1 (fL 1 fI) a1.Master.Costs, lst 8 GEnt.av a1.Ents, lst 8 GReceipt.av a1.Receipts, lst 9 GSale.av a1.Sales, lst 6 GTransit.av a1.Transits, int a1.Done]]⟩ sh32 ?_
  refine tr tbk 2 (.mk ?_)
  obtain ⟨c39, hX, hj⟩ := esc_e h1; subst hj; replace h0 := hX.trans (sel_r h0)
  obtain rfl := nxt_e h0
  refine w_ret (hret _ _ _ (.cell rfl (.pt rfl rfl rfl) sh32 rfl (.tmp rfl .nil)) (fun _ _ h => h) ?_)
  exact .refl _
  replace h1 := ct h1
  refine tc tbk 5 (.mk ?_)
  refine sS ⟨32, 10, true, true, v7, [[int a1.Master.Entities, int a1.Master.Periods, lst 1 fI a1.Master.Weights, lst 1 (fL 1 fI) a1.Master.Methods, lst 1 (fL 1 fI) a1.Master.Costs, lst 8 GEnt.av a1.Ents, lst 8 GReceipt.av a1.Receipts, lst 9 GSale.av a1.Sales, lst 6 GTransit.av a1.Transits, int a1.Done]]⟩ sh32 ?_
  refine tr tbk 2 (.mk ?_)
  obtain ⟨c40, hX, hj⟩ := esc_e h1; subst hj; replace h0 := hX.trans (sel_r h0)
  obtain rfl := nxt_e h0
  refine w_ret (hret _ _ _ (.cell rfl (.pt rfl rfl rfl) sh32 rfl (.tmp rfl .nil)) (fun _ _ h => h) ?_)
  exact .refl _
  replace h1 := ct h1
  refine tc tbk 5 (.mk ?_)
  refine sS ⟨32, 10, true, true, v7, [[int a1.Master.Entities, int a1.Master.Periods, lst 1 fI a1.Master.Weights, lst 1 (fL 1 fI) a1.Master.Methods, lst 1 (fL 1 fI) a1.Master.Costs, lst 8 GEnt.av a1.Ents, lst 8 GReceipt.av a1.Receipts, lst 9 GSale.av a1.Sales, lst 6 GTransit.av a1.Transits, int a1.Done]]⟩ sh32 ?_
  refine tr tbk 2 (.mk ?_)
  obtain ⟨c41, hX, hj⟩ := esc_e h1; subst hj; replace h0 := hX.trans (sel_r h0)
  obtain rfl := nxt_e h0
  refine w_ret (hret _ _ _ (.cell rfl (.pt rfl rfl rfl) sh32 rfl (.tmp rfl .nil)) (fun _ _ h => h) ?_)
  exact .refl _
  replace h1 := ct h1
  refine tc tbk 5 (.mk ?_)
  refine sS ⟨32, 10, true, true, v7, [[int a1.Master.Entities, int a1.Master.Periods, lst 1 fI a1.Master.Weights, lst 1 (fL 1 fI) a1.Master.Methods, lst 1 (fL 1 fI) a1.Master.Costs, lst 8 GEnt.av a1.Ents, lst 8 GReceipt.av a1.Receipts, lst 9 GSale.av a1.Sales, lst 6 GTransit.av a1.Transits, int a1.Done]]⟩ sh32 ?_
  refine tr tbk 2 (.mk ?_)
  obtain ⟨c42, hX, hj⟩ := esc_e h1; subst hj; replace h0 := hX.trans (sel_r h0)
  obtain rfl := nxt_e h0
  refine w_ret (hret _ _ _ (.cell rfl (.pt rfl rfl rfl) sh32 rfl (.tmp rfl .nil)) (fun _ _ h => h) ?_)
  exact .refl _
  replace h1 := ct h1
  refine tc tbk 5 (.mk ?_)
  refine sS ⟨32, 10, true, true, v7, [[int a1.Master.Entities, int a1.Master.Periods, lst 1 fI a1.Master.Weights, lst 1 (fL 1 fI) a1.Master.Methods, lst 1 (fL 1 fI) a1.Master.Costs, lst 8 GEnt.av a1.Ents, lst 8 GReceipt.av a1.Receipts, lst 9 GSale.av a1.Sales, lst 6 GTransit.av a1.Transits, int a1.Done]]⟩ sh32 ?_
  refine tr tbk 2 (.mk ?_)
  obtain ⟨c43, hX, hj⟩ := esc_e h1; subst hj; replace h0 := hX.trans (sel_r h0)
  obtain rfl := nxt_e h0
  refine w_ret (hret _ _ _ (.cell rfl (.pt rfl rfl rfl) sh32 rfl (.tmp rfl .nil)) (fun _ _ h => h) ?_)
  exact .refl _
  replace h1 := ct h1
  refine tc tbk 5 (.mk ?_)
  refine sS ⟨32, 10, true, true, v7, [[int a1.Master.Entities, int a1.Master.Periods, lst 1 fI a1.Master.Weights, lst 1 (fL 1 fI) a1.Master.Methods, lst 1 (fL 1 fI) a1.Master.Costs, lst 8 GEnt.av a1.Ents, lst 8 GReceipt.av a1.Receipts, lst 9 GSale.av a1.Sales, lst 6 GTransit.av a1.Transits, int a1.Done]]⟩ sh32 ?_
  refine tr tbk 2 (.mk ?_)
  obtain ⟨c44, hX, hj⟩ := esc_e h1; subst hj; replace h0 := hX.trans (sel_r h0)
  obtain rfl := nxt_e h0
  refine w_ret (hret _ _ _ (.cell rfl (.pt rfl rfl rfl) sh32 rfl (.tmp rfl .nil)) (fun _ _ h => h) ?_)
  exact .refl _
  replace h1 := ct h1
  refine tc tbk 5 (.mk ?_)
  refine sS ⟨32, 10, true, true, v7, [[int a1.Master.Entities, int a1.Master.Periods, lst 1 fI a1.Master.Weights, lst 1 (fL 1 fI) a1.Master.Methods, lst 1 (fL 1 fI) a1.Master.Costs, lst 8 GEnt.av a1.Ents, lst 8 GReceipt.av a1.Receipts, lst 9 GSale.av a1.Sales, lst 6 GTransit.av a1.Transits, int a1.Done]]⟩ sh32 ?_
  refine tr tbk 2 (.mk ?_)
  obtain ⟨c45, hX, hj⟩ := esc_e h1; subst hj; replace h0 := hX.trans (sel_r h0)
  obtain rfl := nxt_e h0
  refine w_ret (hret _ _ _ (.cell rfl (.pt rfl rfl rfl) sh32 rfl (.tmp rfl .nil)) (fun _ _ h => h) ?_)
  exact .refl _
  replace h1 := ct h1
  refine tc tbk 5 (.mk ?_)
  refine sS ⟨32, 10, true, true, v7, [[int a1.Master.Entities, int a1.Master.Periods, lst 1 fI a1.Master.Weights, lst 1 (fL 1 fI) a1.Master.Methods, lst 1 (fL 1 fI) a1.Master.Costs, lst 8 GEnt.av a1.Ents, lst 8 GReceipt.av a1.Receipts, lst 9 GSale.av a1.Sales, lst 6 GTransit.av a1.Transits, int a1.Done]]⟩ sh32 ?_
  refine tr tbk 2 (.mk ?_)
  obtain ⟨c46, hX, hj⟩ := esc_e h1; subst hj; replace h0 := hX.trans (sel_r h0)
  obtain rfl := nxt_e h0
  refine w_ret (hret _ _ _ (.cell rfl (.pt rfl rfl rfl) sh32 rfl (.tmp rfl .nil)) (fun _ _ h => h) ?_)
  exact .refl _
  replace h1 := ct h1
  refine tc tbk 5 (.mk ?_)
  refine sS ⟨32, 10, true, true, v7, [[int a1.Master.Entities, int a1.Master.Periods, lst 1 fI a1.Master.Weights, lst 1 (fL 1 fI) a1.Master.Methods, lst 1 (fL 1 fI) a1.Master.Costs, lst 8 GEnt.av a1.Ents, lst 8 GReceipt.av a1.Receipts, lst 9 GSale.av a1.Sales, lst 6 GTransit.av a1.Transits, int a1.Done]]⟩ sh32 ?_
  refine tr tbk 2 (.mk ?_)
  obtain ⟨c47, hX, hj⟩ := esc_e h1; subst hj; replace h0 := hX.trans (sel_r h0)
  obtain rfl := nxt_e h0
  refine w_ret (hret _ _ _ (.cell rfl (.pt rfl rfl rfl) sh32 rfl (.tmp rfl .nil)) (fun _ _ h => h) ?_)
  exact .refl _
  replace h1 := ct h1
  refine tc tbk 5 (.mk ?_)
  refine sS ⟨32, 10, true, true, v7, [[int a1.Master.Entities, int a1.Master.Periods, lst 1 fI a1.Master.Weights, lst 1 (fL 1 fI) a1.Master.Methods, lst 1 (fL 1 fI) a1.Master.Costs, lst 8 GEnt.av a1.Ents, lst 8 GReceipt.av a1.Receipts, lst 9 GSale.av a1.Sales, lst 6 GTransit.av a1.Transits, int a1.Done]]⟩ sh32 ?_
  refine tr tbk 2 (.mk ?_)
  obtain ⟨c48, hX, hj⟩ := esc_e h1; subst hj; replace h0 := hX.trans (sel_r h0)
  obtain rfl := nxt_e h0
  refine w_ret (hret _ _ _ (.cell rfl (.pt rfl rfl rfl) sh32 rfl (.tmp rfl .nil)) (fun _ _ h => h) ?_)
  exact .refl _
  replace h1 := ct h1
  refine tc tbk 5 (.mk ?_)
  refine sS ⟨32, 10, true, true, v7, [[int a1.Master.Entities, int a1.Master.Periods, lst 1 fI a1.Master.Weights, lst 1 (fL 1 fI) a1.Master.Methods, lst 1 (fL 1 fI) a1.Master.Costs, lst 8 GEnt.av a1.Ents, lst 8 GReceipt.av a1.Receipts, lst 9 GSale.av a1.Sales, lst 6 GTransit.av a1.Transits, int a1.Done]]⟩ sh32 ?_
  refine tr tbk 2 (.mk ?_)
  obtain ⟨c49, hX, hj⟩ := esc_e h1; subst hj; replace h0 := hX.trans (sel_r h0)
  obtain rfl := nxt_e h0
  refine w_ret (hret _ _ _ (.cell rfl (.pt rfl rfl rfl) sh32 rfl (.tmp rfl .nil)) (fun _ _ h => h) ?_)
  exact .refl _
  rintro ⟨y0_1, y0_2, y0_3, y0_4, y0_5, y0_6, y0_7, y0_8, y0_9, y0_10, y0_11⟩ _ h0
  replace h0 := p2_e h0
  replace h0 := p2_e h0
  replace h0 := p2_e h0
  replace h0 := p2_e h0
  replace h0 := p2_e h0
  replace h0 := p2_e h0
  replace h0 := p2_e h0
  replace h0 := p2_e h0
  replace h0 := p2_e h0
  replace h0 := p2_e h0
  refine tc tbk 4 (.mk ?_)
  obtain ⟨j50, h1, h0⟩ := bind_e h0
  refine rse (Out := fun y H' => (∃ (a : Int × Bool × (List GEnt) × (List GPool) × (List Int) × (List GRoll) × (List Int) × (List Int)) (k : Nat × Nat × Nat × Nat × Nat × Nat), a = j50 ∧ y = .agg [int a1.Master.Entities, int a1.Master.Periods, lst 1 fI a1.Master.Weights, lst 1 (fL 1 fI) a1.Master.Methods, lst 1 (fL 1 fI) a1.Master.Costs, .sl 8 k.1 0 a1.Ents.length, lst 8 GReceipt.av a1.Receipts, lst 9 GSale.av a1.Sales, lst 6 GTransit.av a1.Transits, int a1.Done] ∧ H' = hk [(1, ⟨32, 10, true, true, v5, [[int a1.Master.Entities, int a1.Master.Periods, lst 1 fI a1.Master.Weights, lst 1 (fL 1 fI) a1.Master.Methods, lst 1 (fL 1 fI) a1.Master.Costs, lst 8 GEnt.av a1.Ents, lst 8 GReceipt.av a1.Receipts, lst 9 GSale.av a1.Sales, lst 6 GTransit.av a1.Transits, int a1.Done]]⟩), (3, ⟨32, 10, true, true, v7, [[int 0, int 0, .sc (.slice none 0 0), .sc (.slice none 0 0), .sc (.slice none 0 0), .sc (.slice none 0 0), .sc (.slice none 0 0), .sc (.slice none 0 0), .sc (.slice none 0 0), int 0]]⟩), (4, ⟨126, 11, true, true, v14, [[int y0_1, int y0_2, int y0_3, int y0_4, int y0_5, int y0_6, int y0_7, int y0_8, int y0_9, int y0_10, int y0_11]]⟩), (8, ⟨42, 8, true, true, k.1, (a1.Ents.map GEnt.av).set (Int.toNat a2) [int a.1, boo a.2.1, .sl 9 k.2.1 0 a.2.2.2.1.length, .sl 10 k.2.2.1 0 a.2.2.2.2.1.length, .sl 11 k.2.2.2.1 0 a.2.2.2.2.2.1.length, .sl 12 k.2.2.2.2.1 0 a.2.2.2.2.2.2.1.length, .sl 13 k.2.2.2.2.2 0 a.2.2.2.2.2.2.2.length, lst 8 GEnt.av a.2.2.1]⟩), (9, ⟨69, 4, true, true, k.2.1, a.2.2.2.1.map GPool.av⟩), (10, ⟨3, 1, true, true, k.2.2.1, a.2.2.2.2.1.map fI⟩), (11, ⟨49, 11, true, true, k.2.2.2.1, a.2.2.2.2.2.1.map GRoll.av⟩), (12, ⟨3, 1, true, true, k.2.2.2.2.1, a.2.2.2.2.2.2.1.map fI⟩), (13, ⟨3, 1, true, true, k.2.2.2.2.2, a.2.2.2.2.2.2.2.map fI⟩)])) rfl rfl rfl (yl_call rfl rfl (.cons rfl (.cons rfl .nil)) cal67 ?_) ?_
  refine pcw (c := _) Tryz.func67 rfl rfl ?_; intro Q hret hnorm
  refine tc tbk 2 (.mk ?_)
  refine rse rfl rfl rfl (yl_box 6 .any rfl rfl rfl) ?_; rintro _ _ ⟨v51, -, rfl, rfl⟩
  refine rse rfl rfl rfl (yl_alloc 7 .any rfl z32 rfl) ?_; rintro _ _ ⟨v52, -, rfl, rfl⟩
  refine tr tbk 5 (.mk ?_)
  obtain ⟨p53, h1⟩ := asrt_e h1
  refine rse rfl rfl rfl (yl_app0T (g := GEnt.av) (m := a1.Ents) 8 rfl Tryz.underlying27 bz42 by42 rfl rfl rfl rfl (.refl _) GEnt.one p53) ?_; rintro _ _ ⟨v54, rfl, rfl⟩
  refine tr tbk 1 (.mk ?_)
  refine sS ⟨32, 10, true, true, v51, [[int a1.Master.Entities, int a1.Master.Periods, lst 1 fI a1.Master.Weights, lst 1 (fL 1 fI) a1.Master.Methods, lst 1 (fL 1 fI) a1.Master.Costs, .sl 8 v54 0 a1.Ents.length, lst 8 GReceipt.av a1.Receipts, lst 9 GSale.av a1.Sales, lst 6 GTransit.av a1.Transits, int a1.Done]]⟩ sh27 ?_
  refine tr tbk 6 (.mk ?_)
  obtain ⟨x55, e55, h1⟩ := bind_e h1
  refine rst rfl rfl rfl (yv_ixO rfl Tryz.underlying27 sh42 rfl rfl rfl rfl rfl (Eq.symm rfl) (List.length_map _) e55) ?_
  refine tr tbk 3 (.mk ?_)
  refine c_drawE [0, 0, 0, 0, 8, 24, 56, 120, 0, 256, 768, 1792, 4088, 0, 8192, 24576, 57344, 131064, 262137, 524281, 1048569, 2097147, 4194299, 8388603, 16777215, 33554431, 67108863] (rl [(4, [8]), (5, [8]), (6, [8]), (9, [8]), (10, [8]), (11, [8]), (14, [8]), (15, [8]), (16, [8]), (18, [8]), (19, [8]), (21, [8]), (22, [8]), (24, [8]), (25, [8])] []) (rl [(17, []), (20, []), (23, []), (26, [])] [8]) (rl [(7, false), (12, false), (17, false), (20, false), (23, false), (26, false)] true) [0, 1, 2, 3, 4, 5, 6, 8, 9, 10, 11, 13, 14, 15, 16, 7, 12, 17, 18, 19, 20, 21, 22, 23, 24, 25, 26] mixed (by kernel_rfl) ?_; intro K hK
  iterate 4 refine eM ?_
  refine eN (hr := ix_get' e55 (GEnt.av_eq _)) ?_
  refine eF fo42_2 (hr := ix_get' e55 (GEnt.av_eq _)) ?_
  refine eL sh39 (hr := ix_get' e55 (GEnt.av_eq _)) ?_
  refine eM ?_
  refine eN (hr := ix_get' e55 (GEnt.av_eq _)) ?_
  refine eF fo42_3 (hr := ix_get' e55 (GEnt.av_eq _)) ?_
  refine eL sh23 (hr := ix_get' e55 (GEnt.av_eq _)) ?_
  refine eM ?_
  refine eN (hr := ix_get' e55 (GEnt.av_eq _)) ?_
  refine eF fo42_4 (hr := ix_get' e55 (GEnt.av_eq _)) ?_
  refine eL sh40 (hr := ix_get' e55 (GEnt.av_eq _)) ?_
  obtain ⟨p56, h1⟩ := asrt_e h1
  refine de_eff rfl rfl rfl rfl (yl_app0T (g := GPool.av) (m := x55.Pools) 9 rfl Tryz.underlying39 bz69 by69 rfl rfl rfl rfl (.refl _) (fun _ => rfl) p56) (by rintro _ _ ⟨v57, rfl, rfl⟩; exact ⟨rfl, trivial⟩) ?_; rintro _ _ ⟨v57, rfl, rfl⟩
  obtain ⟨p58, h1⟩ := asrt_e h1
  refine de_eff rfl rfl rfl rfl (yl_app0T (g := fI) (m := x55.Bal) 10 rfl Tryz.underlying23 bz3 by3 rfl rfl rfl rfl (.refl _) (fun _ => rfl) p58) (by rintro _ _ ⟨v59, rfl, rfl⟩; exact ⟨rfl, trivial⟩) ?_; rintro _ _ ⟨v59, rfl, rfl⟩
  obtain ⟨p60, h1⟩ := asrt_e h1
  refine de_eff rfl rfl rfl rfl (yl_app0T (g := GRoll.av) (m := x55.Rolls) 11 rfl Tryz.underlying40 bz49 by49 rfl rfl rfl rfl (.refl _) (fun _ => rfl) p60) (by rintro _ _ ⟨v61, rfl, rfl⟩; exact trivial) ?_; rintro _ _ ⟨v61, rfl, rfl⟩
  refine eN (hr := ix_get' e55 (GEnt.av_eq _)) ?_
  refine eF fo42_2 (hr := ix_get' e55 (GEnt.av_eq _)) ?_
  refine de_eff0 rfl rfl rfl rfl (Yield.weak (yl_ob (ob' := (⟨42, 8, true, true, v54, (a1.Ents.map GEnt.av).set (Int.toNat a2) [int x55.Now, boo x55.Closed, .sl 9 v57 0 x55.Pools.length, lst 1 fI x55.Bal, lst 11 GRoll.av x55.Rolls, lst 1 fI x55.Prices, lst 1 fI x55.Down, lst 8 GEnt.av x55.Ahead]⟩ : AObj)) (yl_store rfl sh39 rfl rfl rfl rfl rfl (ix_get' e55 (GEnt.av_eq _)) rfl rfl rfl) (ob_eq rfl)) (fun _ h => h) (fun _ _ => trivial)) (by rintro _ _ ⟨rfl, rfl⟩; exact trivial) ?_; rintro _ _ ⟨rfl, rfl⟩
  refine eN (hr := set_get e55) ?_
  refine eF fo42_3 (hr := set_get e55) ?_
  refine de_eff0 rfl rfl rfl rfl (Yield.weak (yl_ob (ob' := (⟨42, 8, true, true, v54, (a1.Ents.map GEnt.av).set (Int.toNat a2) [int x55.Now, boo x55.Closed, .sl 9 v57 0 x55.Pools.length, .sl 10 v59 0 x55.Bal.length, lst 11 GRoll.av x55.Rolls, lst 1 fI x55.Prices, lst 1 fI x55.Down, lst 8 GEnt.av x55.Ahead]⟩ : AObj)) (yl_store rfl sh23 rfl rfl rfl rfl rfl (set_get e55) rfl rfl rfl) (ob_eq set_setV)) (fun _ h => h) (fun _ _ => trivial)) (by rintro _ _ ⟨rfl, rfl⟩; exact trivial) ?_; rintro _ _ ⟨rfl, rfl⟩
  refine eN (hr := set_get e55) ?_
  refine eF fo42_4 (hr := set_get e55) ?_
  refine de_eff0 rfl rfl rfl rfl (Yield.weak (yl_ob (ob' := (⟨42, 8, true, true, v54, (a1.Ents.map GEnt.av).set (Int.toNat a2) [int x55.Now, boo x55.Closed, .sl 9 v57 0 x55.Pools.length, .sl 10 v59 0 x55.Bal.length, .sl 11 v61 0 x55.Rolls.length, lst 1 fI x55.Prices, lst 1 fI x55.Down, lst 8 GEnt.av x55.Ahead]⟩ : AObj)) (yl_store rfl sh40 rfl rfl rfl rfl rfl (set_get e55) rfl rfl rfl) (ob_eq set_setV)) (fun _ h => h) (fun _ _ => trivial)) (by rintro _ _ ⟨rfl, rfl⟩; exact trivial) ?_; rintro _ _ ⟨rfl, rfl⟩
  refine de_nil (hK _ ?_)
  refine tc tbk 1 (.mk ?_)
  refine c_drawE [0, 0, 0, 4, 12, 28, 60, 0, 128, 384, 896, 2044, 4093, 8189, 16381, 32767, 65535, 131071] (rl [(3, [8]), (4, [8]), (5, [8]), (8, [8]), (9, [8]), (10, [8]), (12, [8]), (13, [8]), (15, [8]), (16, [8])] []) (rl [(11, []), (14, []), (17, [])] [8]) (rl [(6, false), (11, false), (14, false), (17, false)] true) [0, 1, 2, 3, 4, 5, 7, 8, 9, 10, 6, 11, 12, 13, 14, 15, 16, 17] mixed (by kernel_rfl) ?_; intro K hK
  iterate 3 refine eM ?_
  refine eN (hr := set_get e55) ?_
  refine eF fo42_5 (hr := set_get e55) ?_
  refine eL sh23 (hr := set_get e55) ?_
  refine eM ?_
  refine eN (hr := set_get e55) ?_
  refine eF fo42_6 (hr := set_get e55) ?_
  refine eL sh23 (hr := set_get e55) ?_
  obtain ⟨p62, h1⟩ := asrt_e h1
  refine de_eff rfl rfl rfl rfl (yl_app0T (g := fI) (m := x55.Prices) 12 rfl Tryz.underlying23 bz3 by3 rfl rfl rfl rfl (.refl _) (fun _ => rfl) p62) (by rintro _ _ ⟨v63, rfl, rfl⟩; exact ⟨rfl, trivial⟩) ?_; rintro _ _ ⟨v63, rfl, rfl⟩
  obtain ⟨p64, h1⟩ := asrt_e h1
  refine de_eff rfl rfl rfl rfl (yl_app0T (g := fI) (m := x55.Down) 13 rfl Tryz.underlying23 bz3 by3 rfl rfl rfl rfl (.refl _) (fun _ => rfl) p64) (by rintro _ _ ⟨v65, rfl, rfl⟩; exact trivial) ?_; rintro _ _ ⟨v65, rfl, rfl⟩
  refine eN (hr := set_get e55) ?_
  refine eF fo42_5 (hr := set_get e55) ?_
  refine de_eff0 rfl rfl rfl rfl (Yield.weak (yl_ob (ob' := (⟨42, 8, true, true, v54, (a1.Ents.map GEnt.av).set (Int.toNat a2) [int x55.Now, boo x55.Closed, .sl 9 v57 0 x55.Pools.length, .sl 10 v59 0 x55.Bal.length, .sl 11 v61 0 x55.Rolls.length, .sl 12 v63 0 x55.Prices.length, lst 1 fI x55.Down, lst 8 GEnt.av x55.Ahead]⟩ : AObj)) (yl_store rfl sh23 rfl rfl rfl rfl rfl (set_get e55) rfl rfl rfl) (ob_eq set_setV)) (fun _ h => h) (fun _ _ => trivial)) (by rintro _ _ ⟨rfl, rfl⟩; exact trivial) ?_; rintro _ _ ⟨rfl, rfl⟩
  refine eN (hr := set_get e55) ?_
  refine eF fo42_6 (hr := set_get e55) ?_
  refine de_eff0 rfl rfl rfl rfl (Yield.weak (yl_ob (ob' := (⟨42, 8, true, true, v54, (a1.Ents.map GEnt.av).set (Int.toNat a2) [int x55.Now, boo x55.Closed, .sl 9 v57 0 x55.Pools.length, .sl 10 v59 0 x55.Bal.length, .sl 11 v61 0 x55.Rolls.length, .sl 12 v63 0 x55.Prices.length, .sl 13 v65 0 x55.Down.length, lst 8 GEnt.av x55.Ahead]⟩ : AObj)) (yl_store rfl sh23 rfl rfl rfl rfl rfl (set_get e55) rfl rfl rfl) (ob_eq set_setV)) (fun _ h => h) (fun _ _ => trivial)) (by rintro _ _ ⟨rfl, rfl⟩; exact trivial) ?_; rintro _ _ ⟨rfl, rfl⟩
  refine de_nil (hK _ ?_)
  refine tc tbk 3 (.mk ?_)
  refine sS ⟨32, 10, true, true, v52, [[int a1.Master.Entities, int a1.Master.Periods, lst 1 fI a1.Master.Weights, lst 1 (fL 1 fI) a1.Master.Methods, lst 1 (fL 1 fI) a1.Master.Costs, .sl 8 v54 0 a1.Ents.length, lst 8 GReceipt.av a1.Receipts, lst 9 GSale.av a1.Sales, lst 6 GTransit.av a1.Transits, int a1.Done]]⟩ sh32 ?_
  refine tr tbk 1 (.mk ?_)
  obtain rfl := nxt_e h1
  refine w_ret (hret _ _ (hk [(1, ⟨32, 10, true, true, v5, [[int a1.Master.Entities, int a1.Master.Periods, lst 1 fI a1.Master.Weights, lst 1 (fL 1 fI) a1.Master.Methods, lst 1 (fL 1 fI) a1.Master.Costs, lst 8 GEnt.av a1.Ents, lst 8 GReceipt.av a1.Receipts, lst 9 GSale.av a1.Sales, lst 6 GTransit.av a1.Transits, int a1.Done]]⟩), (3, ⟨32, 10, true, true, v7, [[int 0, int 0, .sc (.slice none 0 0), .sc (.slice none 0 0), .sc (.slice none 0 0), .sc (.slice none 0 0), .sc (.slice none 0 0), .sc (.slice none 0 0), .sc (.slice none 0 0), int 0]]⟩), (4, ⟨126, 11, true, true, v14, [[int y0_1, int y0_2, int y0_3, int y0_4, int y0_5, int y0_6, int y0_7, int y0_8, int y0_9, int y0_10, int y0_11]]⟩), (8, ⟨42, 8, true, true, v54, (a1.Ents.map GEnt.av).set (Int.toNat a2) [int x55.Now, boo x55.Closed, .sl 9 v57 0 x55.Pools.length, .sl 10 v59 0 x55.Bal.length, .sl 11 v61 0 x55.Rolls.length, .sl 12 v63 0 x55.Prices.length, .sl 13 v65 0 x55.Down.length, lst 8 GEnt.av x55.Ahead]⟩), (9, ⟨69, 4, true, true, v57, x55.Pools.map GPool.av⟩), (10, ⟨3, 1, true, true, v59, x55.Bal.map fI⟩), (11, ⟨49, 11, true, true, v61, x55.Rolls.map GRoll.av⟩), (12, ⟨3, 1, true, true, v63, x55.Prices.map fI⟩), (13, ⟨3, 1, true, true, v65, x55.Down.map fI⟩)]) (.cell rfl (.pt rfl rfl rfl) sh32 rfl .nil) (HK.le ⟨rfl, rfl, rfl, rfl, rfl, rfl, rfl, rfl, rfl, trivial⟩) ?_)
  exact ⟨(x55.Now, x55.Closed, x55.Ahead, x55.Pools, x55.Bal, x55.Rolls, x55.Prices, x55.Down), (v54, v57, v59, v61, v63, v65), rfl, rfl, rfl⟩
  rintro y _ ⟨⟨y1_2, y1_3, y1_9, y1_10, y1_11, y1_12, y1_13, y1_14⟩, ⟨w1_1, w1_4, w1_5, w1_6, w1_7, w1_8⟩, rfl, hc, rfl⟩
  replace h0 := p2_e h0
  replace h0 := p2_e h0
  replace h0 := p2_e h0
  replace h0 := p2_e h0
  replace h0 := p2_e h0
  replace h0 := p2_e h0
  replace h0 := p2_e h0
  subst hc
  obtain ⟨x66, e66, h0⟩ := bind_e h0
  refine rse rfl rfl rfl (yl_alloc 14 .any rfl z32 rfl) ?_; rintro _ _ ⟨v67, -, rfl, rfl⟩
  refine sS ⟨32, 10, true, true, v67, [[int a1.Master.Entities, int a1.Master.Periods, lst 1 fI a1.Master.Weights, lst 1 (fL 1 fI) a1.Master.Methods, lst 1 (fL 1 fI) a1.Master.Costs, .sl 8 w1_1 0 a1.Ents.length, lst 8 GReceipt.av a1.Receipts, lst 9 GSale.av a1.Sales, lst 6 GTransit.av a1.Transits, int a1.Done]]⟩ sh32 ?_
  refine tr tbk 2 (.mk ?_)
  refine c_drawE [0, 1, 0, 7, 15, 31, 0, 0, 128, 511, 1023] (rl [(0, [14]), (1, [14]), (3, [8]), (4, [8]), (5, [8]), (7, [4]), (9, [11])] []) (rl [(10, [])] [4, 8, 11, 14]) (rl [(10, false)] true) [0, 1, 2, 3, 4, 5, 6, 7, 8, 9, 10] mixed (by kernel_rfl) ?_; intro K hK
  refine eF fo32_1 ?_
  refine eL sh27 ?_
  refine eM ?_
  refine de_pure rfl rfl rfl rfl (fun H hH => yv_ixO rfl Tryz.underlying27 sh42 rfl rfl ((hH _ (by decide)).trans rfl) rfl rfl (Eq.symm rfl) len_ov e66) ?_
  refine eF fo42_4 (hr := set_get e66) ?_
  refine eL sh40 (hr := set_get e66) ?_
  refine eM ?_
  refine eL sh126 ?_
  obtain ⟨x68, e68, h0⟩ := bind_e h0
  refine eP (fun H hH => yv_callP rfl rfl (.cons rfl .nil) cal101 (CvL.refl _) (d_ref14_Roll_c e68)) ?_
  obtain ⟨x69, e69, h0⟩ := bind_e h0
  refine de_pure rfl rfl rfl rfl (fun H hH => yv_ixO rfl Tryz.underlying40 sh49 rfl rfl ((hH _ (by decide)).trans rfl) rfl rfl (Eq.symm rfl) (List.length_map _) e69) ?_
  obtain ⟨x70, e70, h0⟩ := bnd_e h0
  have fx70 := ix_set e69 e70; have lx70 := len_setV e70 (rfl : y1_12.length = y1_12.length)
  refine de_eff0 rfl rfl rfl rfl (Yield.weak (yl_ob (ob' := (⟨49, 11, true, true, w1_6, x70.map GRoll.av⟩ : AObj)) (yl_store rfl sh49 rfl rfl rfl rfl rfl (ix_get e69) rfl rfl rfl) (ob_eq (map_setV e70))) (fun _ h => h) (fun _ _ => trivial)) (by rintro _ _ ⟨rfl, rfl⟩; exact trivial) ?_; rintro _ _ ⟨rfl, rfl⟩
  refine de_nil (hK _ ?_)
  refine tc tbk 3 (.mk ?_)
  refine sS ⟨32, 10, true, true, v7, [[int a1.Master.Entities, int a1.Master.Periods, lst 1 fI a1.Master.Weights, lst 1 (fL 1 fI) a1.Master.Methods, lst 1 (fL 1 fI) a1.Master.Costs, .sl 8 w1_1 0 a1.Ents.length, lst 8 GReceipt.av a1.Receipts, lst 9 GSale.av a1.Sales, lst 6 GTransit.av a1.Transits, int a1.Done]]⟩ sh32 ?_
  refine tr tbk 2 (.mk ?_)
  obtain rfl := nxt_e h0
  refine w_ret (hret _ _ _ (.cell rfl (.pt rfl rfl rfl) sh32 rfl (.tmp rfl .nil)) (fun _ _ h => h) ?_)
  exact CvL.tup (.cons (CvL.agg (.cons (.refl _) (.cons (.refl _) (.cons (.refl _) (.cons (.refl _) (.cons (.refl _) (.cons (cv_ov rfl rfl rfl rfl rfl (Eq.symm rfl) e66 (cvl_to (.cons (.refl _) (.cons (.refl _) (.cons (cv_lst rfl rfl rfl rfl rfl (Eq.symm rfl)) (.cons (cv_lst rfl rfl rfl rfl rfl (Eq.symm rfl)) (.cons (cv_lst rfl rfl rfl rfl rfl (Eq.symm lx70)) (.cons (cv_lst rfl rfl rfl rfl rfl (Eq.symm rfl)) (.cons (cv_lst rfl rfl rfl rfl rfl (Eq.symm rfl)) (.cons (.refl _) .nil)))))))) (GEnt.av_eq _))) (.cons (.refl _) (.cons (.refl _) (.cons (.refl _) (.cons (.refl _) .nil))))))))))) (.cons (.refl _) .nil))
  replace h0 := ct h0
  refine tc tbk 4 (.mk ?_)
  refine sS ⟨32, 10, true, true, v7, [[int a1.Master.Entities, int a1.Master.Periods, lst 1 fI a1.Master.Weights, lst 1 (fL 1 fI) a1.Master.Methods, lst 1 (fL 1 fI) a1.Master.Costs, lst 8 GEnt.av a1.Ents, lst 8 GReceipt.av a1.Receipts, lst 9 GSale.av a1.Sales, lst 6 GTransit.av a1.Transits, int a1.Done]]⟩ sh32 ?_
  refine tr tbk 2 (.mk ?_)
  obtain rfl := nxt_e h0
  refine w_ret (hret _ _ _ (.cell rfl (.pt rfl rfl rfl) sh32 rfl (.tmp rfl .nil)) (fun _ _ h => h) ?_)
  exact .refl _
def d_ref15_Do (n : Nat) (a1 : GState) (a2 : GOp) : Option (GState × Int) :=
bnd (decide (a2.Kind ≠ 1)) fun x6 =>
cond x6 (some ((a1 : GState), (1 : Int))) ((d_ref14_Ready a1 a2.E a2.Item).bind fun x7 =>
bnd (decide (x7 ≠ 0)) fun x8 =>
cond x8 (some ((a1 : GState), (x7 : Int))) (bnd (decide ((a1.Receipts.length : Int) ≥ 40)) fun x9 =>
cond x9 (some ((a1 : GState), (6 : Int))) ((d_ref14_Bring n a1 a2.E a2.Item a2.Loc (⟨a2.Qty, a2.Amount, 0⟩ : GLayer)).bind fun x10 =>
bnd (decide (x10.2.2.2 ≠ 0)) fun x12 =>
cond x12 (some ((a1 : GState), (x10.2.2.2 : Int))) (bnd (w64 (0 - a2.Amount)) fun x13 =>
(d_ref14_Post n x10.1 a2.E ([(⟨0, x10.2.1⟩ : GLine), (⟨6, x10.2.2.1⟩ : GLine), (⟨1, x13⟩ : GLine)] : List GLine)).bind fun x14 =>
bnd (decide (x14.2 ≠ 0)) fun x15 =>
cond x15 (some ((a1 : GState), (x14.2 : Int))) ((d_ref14_Turn x14.1 a2.E a2.Item (⟨0, x10.2.1, 0, 0, 0, 0, 0, 0, 0, 0, 0⟩ : GRoll)).bind fun x16 =>
bnd (decide (x16.2 ≠ 0)) fun x17 =>
cond x17 (some ((a1 : GState), (x16.2 : Int))) (asrt (x16.1.Receipts.length ≤ 68719476736) <|
bnd (x16.1.Receipts ++ ([(⟨a2.E, a2.Item, a2.Loc, a2.Qty, a2.Amount, a2.Qty, a2.Amount, 0⟩ : GReceipt)] : List GReceipt)) fun x20 =>
asrt (x20.length ≤ 68719476736) <|
some (((⟨x16.1.Master, x16.1.Ents, x20, x16.1.Sales, x16.1.Transits, x16.1.Done⟩ : GState) : GState), (0 : Int))))))))
theorem d_ref15_Do_c {n : Nat} {a1 : GState} {a2 : GOp} {r : GState × Int} (h0 : d_ref15_Do n a1 a2 = some r) : PP Tryz.prog 27 [.agg (GState.av a1), .agg (GOp.av a2)] (fun y => y = .tup [.agg (GState.av r.1), int r.2]) := by
  unfold d_ref15_Do at h0
  refine pp_of_pc (R0 := fun y H => Cv (frzH H) y (.tup [.agg (GState.av r.1), int r.2])) ?_ (fun y H hc => ⟨_, rfl, .tup (pvl2 ((fun (a : GState) => PV.agg (GState.pvc a)) (r.1)) (pvI (r.2))), hc⟩)
  refine pcw (c := _) Tryz.func27 rfl rfl ?_; intro Q hret hnorm
  refine tc tbk 2 (.mk ?_)
  refine rse rfl rfl rfl (yl_box 1 .any rfl rfl rfl) ?_; rintro _ _ ⟨v3, -, rfl, rfl⟩
  refine rse rfl rfl rfl (yl_box 2 .any rfl rfl rfl) ?_; rintro _ _ ⟨v4, -, rfl, rfl⟩
  refine rse rfl rfl rfl (yl_alloc 3 .any rfl z32 rfl) ?_; rintro _ _ ⟨v5, -, rfl, rfl⟩
  refine tr tbk 7 (.mk ?_)
  refine nb tbk h0 fun x6 h0 => ?_
  refine tr tbk 1 (.mk ?_)
  cases x6
  replace h0 := cf h0
  refine tc tbk 10 (.mk ?_)
  obtain ⟨x7, e7, h0⟩ := bind_e h0
  refine rst rfl rfl rfl (yv_callP rfl rfl (.cons rfl (.cons rfl (.cons rfl .nil))) cal57 (CvL.refl _) (d_ref14_Ready_c e7)) ?_
  refine tr tbk 5 (.mk ?_)
  refine nb tbk h0 fun x8 h0 => ?_
  refine tr tbk 1 (.mk ?_)
  cases x8
  replace h0 := cf h0
  refine tc tbk 7 (.mk ?_)
  refine rst rfl rfl rfl (yv_len_sl rfl Tryz.underlying28 rfl (lst_len _)) ?_
  refine nb tbk h0 fun x9 h0 => ?_
  refine tr tbk 1 (.mk ?_)
  cases x9
  replace h0 := cf h0
  refine tc tbk 16 (.mk ?_)
  obtain ⟨x10, e10, h0⟩ := bind_e h0
  refine rst rfl rfl rfl (yv_callP rfl rfl (.cons rfl (.cons rfl (.cons rfl (.cons rfl (.cons rfl .nil))))) cal58 (CvL.refl _) (d_ref14_Bring_c e10)) ?_
  refine tr tbk 5 (.mk ?_)
  refine rse rfl rfl rfl (yl_alloc 4 .any rfl z32 rfl) ?_; rintro _ _ ⟨v11, -, rfl, rfl⟩
  refine sS ⟨32, 10, true, true, v11, [[int x10.1.Master.Entities, int x10.1.Master.Periods, lst 1 fI x10.1.Master.Weights, lst 1 (fL 1 fI) x10.1.Master.Methods, lst 1 (fL 1 fI) x10.1.Master.Costs, lst 8 GEnt.av x10.1.Ents, lst 8 GReceipt.av x10.1.Receipts, lst 9 GSale.av x10.1.Sales, lst 6 GTransit.av x10.1.Transits, int x10.1.Done]]⟩ sh32 ?_
  refine tr tbk 8 (.mk ?_)
  refine nb tbk h0 fun x12 h0 => ?_
  refine tr tbk 1 (.mk ?_)
  cases x12
  replace h0 := cf h0
  refine tc tbk 13 (.mk ?_)
  refine ni tbk h0 fun x13 h0 => ?_
  refine tr tbk 1 (.mk ?_)
  refine rst rfl rfl rfl (yv_to (y := lst 2 GLine.av ([(⟨0, x10.2.1⟩ : GLine), (⟨6, x10.2.2.1⟩ : GLine), (⟨1, x13⟩ : GLine)] : List GLine)) (yv_buildSlice (ps := [(0, _), (1, _), (2, _)]) (rows := [[int 0, int x10.2.1], [int 6, int x10.2.2.1], [int 1, int x13]]) rfl Tryz.underlying79 bz78 (.cons rfl (.cons rfl (.cons rfl .nil))) (by kernel_rfl) rfl rfl rfl) rfl) ?_
  obtain ⟨x14, e14, h0⟩ := bind_e h0
  refine rst rfl rfl rfl (yv_callP rfl rfl (.cons rfl (.cons rfl (.cons rfl .nil))) cal59 (CvL.refl _) (d_ref14_Post_c e14)) ?_
  refine tr tbk 3 (.mk ?_)
  refine sS ⟨32, 10, true, true, v11, [[int x14.1.Master.Entities, int x14.1.Master.Periods, lst 1 fI x14.1.Master.Weights, lst 1 (fL 1 fI) x14.1.Master.Methods, lst 1 (fL 1 fI) x14.1.Master.Costs, lst 8 GEnt.av x14.1.Ents, lst 8 GReceipt.av x14.1.Receipts, lst 9 GSale.av x14.1.Sales, lst 6 GTransit.av x14.1.Transits, int x14.1.Done]]⟩ sh32 ?_
  refine tr tbk 6 (.mk ?_)
  refine nb tbk h0 fun x15 h0 => ?_
  refine tr tbk 1 (.mk ?_)
  cases x15
  replace h0 := cf h0
  refine tc tbk 10 (.mk ?_)
  refine rst rfl rfl rfl (yv_build (cs := [int 0, int x10.2.1, int 0, int 0, int 0, int 0, int 0, int 0, int 0, int 0, int 0]) (ps := [(1, _)]) rfl pl49 z49 rfl (.cons rfl .nil) (by kernel_rfl)) ?_
  obtain ⟨x16, e16, h0⟩ := bind_e h0
  refine rst rfl rfl rfl (yv_callP rfl rfl (.cons rfl (.cons rfl (.cons rfl (.cons rfl .nil)))) cal60 (CvL.refl _) (d_ref14_Turn_c e16)) ?_
  refine tr tbk 3 (.mk ?_)
  refine sS ⟨32, 10, true, true, v11, [[int x16.1.Master.Entities, int x16.1.Master.Periods, lst 1 fI x16.1.Master.Weights, lst 1 (fL 1 fI) x16.1.Master.Methods, lst 1 (fL 1 fI) x16.1.Master.Costs, lst 8 GEnt.av x16.1.Ents, lst 8 GReceipt.av x16.1.Receipts, lst 9 GSale.av x16.1.Sales, lst 6 GTransit.av x16.1.Transits, int x16.1.Done]]⟩ sh32 ?_
  refine tr tbk 6 (.mk ?_)
  refine nb tbk h0 fun x17 h0 => ?_
  refine tr tbk 1 (.mk ?_)
  cases x17
  replace h0 := cf h0
  refine tc tbk 3 (.mk ?_)
  refine c_drawE [0, 1, 3, 0, 8, 0, 32, 0, 128, 0, 512, 0, 2048, 0, 8192, 0, 32768, 131064, 262136, 524287, 1048575, 2097151] (rl [(0, [4]), (1, [4]), (3, [2]), (4, [2]), (5, [2]), (6, [2]), (7, [2]), (8, [2]), (9, [2]), (10, [2]), (11, [2]), (12, [2]), (13, [2]), (14, [2]), (15, [2]), (16, [2]), (20, [4])] []) (rl [(2, [2]), (19, []), (21, [])] [2, 4]) (rl [(2, false), (19, false), (21, false)] true) [0, 1, 3, 4, 5, 6, 7, 8, 9, 10, 11, 12, 13, 14, 15, 16, 17, 18, 2, 19, 20, 21] mixed (by kernel_rfl) ?_; intro K hK
  refine eF fo32_2 ?_
  refine eL sh28 ?_
  refine eF fo38_1 ?_
  refine eL sh3 ?_
  refine eF fo38_2 ?_
  refine eL sh3 ?_
  refine eF fo38_3 ?_
  refine eL sh3 ?_
  refine eF fo38_5 ?_
  refine eL sh3 ?_
  refine eF fo38_6 ?_
  refine eL sh3 ?_
  refine eF fo38_5 ?_
  refine eL sh3 ?_
  refine eF fo38_6 ?_
  refine eL sh3 ?_
  refine eP (fun H hH => yv_build (cs := [int a2.E, int a2.Item, int a2.Loc, int a2.Qty, int a2.Amount, int a2.Qty, int a2.Amount, int 0]) (ps := [(0, _), (1, _), (2, _), (3, _), (4, _), (5, _), (6, _)]) rfl pl44 z44 rfl (.cons rfl (.cons rfl (.cons rfl (.cons rfl (.cons rfl (.cons rfl (.cons rfl .nil))))))) (by kernel_rfl)) ?_
  refine eP (fun H hH => yv_to (y := lst 8 GReceipt.av ([(⟨a2.E, a2.Item, a2.Loc, a2.Qty, a2.Amount, a2.Qty, a2.Amount, 0⟩ : GReceipt)] : List GReceipt)) (yv_buildSlice (ps := [(0, _)]) (rows := [[int a2.E, int a2.Item, int a2.Loc, int a2.Qty, int a2.Amount, int a2.Qty, int a2.Amount, int 0]]) rfl Tryz.underlying28 bz44 (.cons rfl .nil) (by kernel_rfl) rfl rfl rfl) rfl) ?_
  obtain ⟨p18, h0⟩ := asrt_e h0
  refine de_eff rfl rfl rfl rfl (yl_app0T (g := GReceipt.av) (m := x16.1.Receipts) 5 rfl Tryz.underlying28 bz44 by44 rfl rfl rfl rfl (.refl _) (fun _ => rfl) p18) (by rintro _ _ ⟨v19, rfl, rfl⟩; exact ⟨rfl, trivial⟩) ?_; rintro _ _ ⟨v19, rfl, rfl⟩
  obtain ⟨x20, e20, h0⟩ := bnd_e h0
  obtain ⟨p21, h0⟩ := asrt_e h0
  refine de_eff rfl rfl rfl rfl (yl_appT (g := GReceipt.av) (l := x16.1.Receipts) (m := ([(⟨a2.E, a2.Item, a2.Loc, a2.Qty, a2.Amount, a2.Qty, a2.Amount, 0⟩ : GReceipt)] : List GReceipt)) .any rfl Tryz.underlying28 bz44 by44 rfl rfl rfl rfl rfl rfl rfl rfl rfl rfl (Eq.symm rfl) (.refl _) (fun _ => rfl) e20 p21) (by rintro _ _ ⟨v22, -, rfl, rfl⟩; exact trivial) ?_; rintro _ _ ⟨v22, -, rfl, rfl⟩
  refine eF fo32_2 ?_
  refine de_eff0 rfl rfl rfl rfl (Yield.weak (yl_ob (ob' := (⟨32, 10, true, true, v11, [[int x16.1.Master.Entities, int x16.1.Master.Periods, lst 1 fI x16.1.Master.Weights, lst 1 (fL 1 fI) x16.1.Master.Methods, lst 1 (fL 1 fI) x16.1.Master.Costs, lst 8 GEnt.av x16.1.Ents, .sl 5 v22 0 x20.length, lst 9 GSale.av x16.1.Sales, lst 6 GTransit.av x16.1.Transits, int x16.1.Done]]⟩ : AObj)) (yl_store rfl sh28 rfl rfl rfl rfl rfl rfl rfl rfl rfl) rfl) (fun _ h => h) (fun _ _ => trivial)) (by rintro _ _ ⟨rfl, rfl⟩; exact trivial) ?_; rintro _ _ ⟨rfl, rfl⟩
  refine de_nil (hK _ ?_)
  refine tc tbk 3 (.mk ?_)
  refine sS ⟨32, 10, true, true, v5, [[int x16.1.Master.Entities, int x16.1.Master.Periods, lst 1 fI x16.1.Master.Weights, lst 1 (fL 1 fI) x16.1.Master.Methods, lst 1 (fL 1 fI) x16.1.Master.Costs, lst 8 GEnt.av x16.1.Ents, .sl 5 v22 0 x20.length, lst 9 GSale.av x16.1.Sales, lst 6 GTransit.av x16.1.Transits, int x16.1.Done]]⟩ sh32 ?_
  refine tr tbk 2 (.mk ?_)
  obtain rfl := nxt_e h0
  refine w_ret (hret _ _ _ (.cell rfl (.pt rfl rfl rfl) sh32 rfl (.tmp rfl .nil)) (fun _ _ h => h) ?_)
  exact CvL.tup (.cons (CvL.agg (.cons (.refl _) (.cons (.refl _) (.cons (.refl _) (.cons (.refl _) (.cons (.refl _) (.cons (.refl _) (.cons (cv_lst rfl rfl rfl rfl rfl (Eq.symm rfl)) (.cons (.refl _) (.cons (.refl _) (.cons (.refl _) .nil))))))))))) (.cons (.refl _) .nil))
  replace h0 := ct h0
  refine tc tbk 5 (.mk ?_)
  refine sS ⟨32, 10, true, true, v5, [[int a1.Master.Entities, int a1.Master.Periods, lst 1 fI a1.Master.Weights, lst 1 (fL 1 fI) a1.Master.Methods, lst 1 (fL 1 fI) a1.Master.Costs, lst 8 GEnt.av a1.Ents, lst 8 GReceipt.av a1.Receipts, lst 9 GSale.av a1.Sales, lst 6 GTransit.av a1.Transits, int a1.Done]]⟩ sh32 ?_
  refine tr tbk 2 (.mk ?_)
  obtain rfl := nxt_e h0
  refine w_ret (hret _ _ _ (.cell rfl (.pt rfl rfl rfl) sh32 rfl (.tmp rfl .nil)) (fun _ _ h => h) ?_)
  exact .refl _
  replace h0 := ct h0
  refine tc tbk 5 (.mk ?_)
  refine sS ⟨32, 10, true, true, v5, [[int a1.Master.Entities, int a1.Master.Periods, lst 1 fI a1.Master.Weights, lst 1 (fL 1 fI) a1.Master.Methods, lst 1 (fL 1 fI) a1.Master.Costs, lst 8 GEnt.av a1.Ents, lst 8 GReceipt.av a1.Receipts, lst 9 GSale.av a1.Sales, lst 6 GTransit.av a1.Transits, int a1.Done]]⟩ sh32 ?_
  refine tr tbk 2 (.mk ?_)
  obtain rfl := nxt_e h0
  refine w_ret (hret _ _ _ (.cell rfl (.pt rfl rfl rfl) sh32 rfl (.tmp rfl .nil)) (fun _ _ h => h) ?_)
  exact .refl _
  replace h0 := ct h0
  refine tc tbk 5 (.mk ?_)
  refine sS ⟨32, 10, true, true, v5, [[int a1.Master.Entities, int a1.Master.Periods, lst 1 fI a1.Master.Weights, lst 1 (fL 1 fI) a1.Master.Methods, lst 1 (fL 1 fI) a1.Master.Costs, lst 8 GEnt.av a1.Ents, lst 8 GReceipt.av a1.Receipts, lst 9 GSale.av a1.Sales, lst 6 GTransit.av a1.Transits, int a1.Done]]⟩ sh32 ?_
  refine tr tbk 2 (.mk ?_)
  obtain rfl := nxt_e h0
  refine w_ret (hret _ _ _ (.cell rfl (.pt rfl rfl rfl) sh32 rfl (.tmp rfl .nil)) (fun _ _ h => h) ?_)
  exact .refl _
  replace h0 := ct h0
  refine tc tbk 4 (.mk ?_)
  refine sS ⟨32, 10, true, true, v5, [[int a1.Master.Entities, int a1.Master.Periods, lst 1 fI a1.Master.Weights, lst 1 (fL 1 fI) a1.Master.Methods, lst 1 (fL 1 fI) a1.Master.Costs, lst 8 GEnt.av a1.Ents, lst 8 GReceipt.av a1.Receipts, lst 9 GSale.av a1.Sales, lst 6 GTransit.av a1.Transits, int a1.Done]]⟩ sh32 ?_
  refine tr tbk 2 (.mk ?_)
  obtain rfl := nxt_e h0
  refine w_ret (hret _ _ _ (.cell rfl (.pt rfl rfl rfl) sh32 rfl (.tmp rfl .nil)) (fun _ _ h => h) ?_)
  exact .refl _
  replace h0 := ct h0
  refine tc tbk 5 (.mk ?_)
  refine sS ⟨32, 10, true, true, v5, [[int a1.Master.Entities, int a1.Master.Periods, lst 1 fI a1.Master.Weights, lst 1 (fL 1 fI) a1.Master.Methods, lst 1 (fL 1 fI) a1.Master.Costs, lst 8 GEnt.av a1.Ents, lst 8 GReceipt.av a1.Receipts, lst 9 GSale.av a1.Sales, lst 6 GTransit.av a1.Transits, int a1.Done]]⟩ sh32 ?_
  refine tr tbk 2 (.mk ?_)
  obtain rfl := nxt_e h0
  refine w_ret (hret _ _ _ (.cell rfl (.pt rfl rfl rfl) sh32 rfl (.tmp rfl .nil)) (fun _ _ h => h) ?_)
  exact .refl _
  replace h0 := ct h0
  refine tc tbk 4 (.mk ?_)
  refine sS ⟨32, 10, true, true, v5, [[int a1.Master.Entities, int a1.Master.Periods, lst 1 fI a1.Master.Weights, lst 1 (fL 1 fI) a1.Master.Methods, lst 1 (fL 1 fI) a1.Master.Costs, lst 8 GEnt.av a1.Ents, lst 8 GReceipt.av a1.Receipts, lst 9 GSale.av a1.Sales, lst 6 GTransit.av a1.Transits, int a1.Done]]⟩ sh32 ?_
  refine tr tbk 2 (.mk ?_)
  obtain rfl := nxt_e h0
  refine w_ret (hret _ _ _ (.cell rfl (.pt rfl rfl rfl) sh32 rfl (.tmp rfl .nil)) (fun _ _ h => h) ?_)
  exact .refl _
def d_law18_stocked (n : Nat) (a1 : Int) (a2 : Int) (a3 : Int) : Option (GState) :=
(d_law18_start n).bind fun x5 =>
(d_ref15_Do n x5 (⟨1, 0, a1, 0, 0, a2, a3, 0, []⟩ : GOp)).bind fun x6 =>
some ((x6.1 : GState))
theorem d_law18_stocked_c {n : Nat} {a1 : Int} {a2 : Int} {a3 : Int} {r : GState} (h0 : d_law18_stocked n a1 a2 a3 = some r) : PP Tryz.prog 25 [int a1, int a2, int a3] (fun y => y = .agg (GState.av r)) := by
  unfold d_law18_stocked at h0
  refine pp_of_pc (R0 := fun y H => Cv (frzH H) y (.agg (GState.av r))) ?_ (fun y H hc => ⟨_, rfl, (fun (a : GState) => PV.agg (GState.pvc a)) r, hc⟩)
  refine pcw (c := _) Tryz.func25 rfl rfl ?_; intro Q hret hnorm
  refine tc tbk 2 (.mk ?_)
  refine rse rfl rfl rfl (yl_alloc 1 .any rfl z32 rfl) ?_; rintro _ _ ⟨v4, -, rfl, rfl⟩
  refine tr tbk 3 (.mk ?_)
  obtain ⟨x5, e5, h0⟩ := bind_e h0
  refine rst rfl rfl rfl (yv_callP rfl rfl .nil cal54 (CvL.refl _) (d_law18_start_c e5)) ?_
  refine tr tbk 3 (.mk ?_)
  refine rst rfl rfl rfl (yv_build (cs := [int 1, int 0, int a1, int 0, int 0, int a2, int a3, int 0, .sc (.slice none 0 0)]) (ps := [(0, _), (2, _), (5, _), (6, _)]) rfl pl38 z38 rfl (.cons rfl (.cons rfl (.cons rfl (.cons rfl .nil)))) (by kernel_rfl)) ?_
  obtain ⟨x6, e6, h0⟩ := bind_e h0
  refine rst rfl rfl rfl (yv_callP rfl rfl (.cons rfl (.cons rfl .nil)) cal27 (.cons (.refl _) (.cons (CvL.agg (.cons (.refl _) (.cons (.refl _) (.cons (.refl _) (.cons (.refl _) (.cons (.refl _) (.cons (.refl _) (.cons (.refl _) (.cons (.refl _) (.cons (.nil _) .nil)))))))))) .nil)) (d_ref15_Do_c e6)) ?_
  refine tr tbk 3 (.mk ?_)
  refine rse rfl rfl rfl (yl_alloc 2 .any rfl z32 rfl) ?_; rintro _ _ ⟨v7, -, rfl, rfl⟩
  refine sS ⟨32, 10, true, true, v7, [[int x6.1.Master.Entities, int x6.1.Master.Periods, lst 1 fI x6.1.Master.Weights, lst 1 (fL 1 fI) x6.1.Master.Methods, lst 1 (fL 1 fI) x6.1.Master.Costs, lst 8 GEnt.av x6.1.Ents, lst 8 GReceipt.av x6.1.Receipts, lst 9 GSale.av x6.1.Sales, lst 6 GTransit.av x6.1.Transits, int x6.1.Done]]⟩ sh32 ?_
  refine tr tbk 5 (.mk ?_)
  refine sS ⟨32, 10, true, true, v4, [[int x6.1.Master.Entities, int x6.1.Master.Periods, lst 1 fI x6.1.Master.Weights, lst 1 (fL 1 fI) x6.1.Master.Methods, lst 1 (fL 1 fI) x6.1.Master.Costs, lst 8 GEnt.av x6.1.Ents, lst 8 GReceipt.av x6.1.Receipts, lst 9 GSale.av x6.1.Sales, lst 6 GTransit.av x6.1.Transits, int x6.1.Done]]⟩ sh32 ?_
  refine tr tbk 1 (.mk ?_)
  obtain rfl := nxt_e h0
  refine w_ret (hret _ _ _ (.cell rfl (.pt rfl rfl rfl) sh32 rfl .nil) (fun _ _ h => h) ?_)
  exact .refl _
def d_stock_is (a1 : GState) (a2 : Int) (a3 : Int) : Option (Bool) :=
(show Option (Bool) from
bnd (decide (a2 < 0)) fun x6 =>
cond x6 (some (true : Bool)) (bnd (decide (a2 ≥ (a1.Ents.length : Int))) fun x7 =>
cond x7 (some (true : Bool)) (bnd (decide (a3 < 0)) fun x8 =>
cond x8 (some (true : Bool)) (bnd (decide (a3 ≥ (a1.Master.Weights.length : Int))) fun x9 =>
some (x9 : Bool))))).bind <| fun y0_1 =>
cond y0_1 (some ((false : Bool))) ((ix a1.Ents a2).bind fun x10 =>
(show Option (Bool) from
bnd (w64 ((a1.Master.Weights.length : Int) * 2)) fun x13 =>
bnd (decide ((x10.Pools.length : Int) ≥ x13)) fun x14 =>
cond x14 (bnd (decide ((x10.Rolls.length : Int) ≥ (a1.Master.Weights.length : Int))) fun x15 =>
cond x15 (bnd (decide (a2 < (a1.Master.Methods.length : Int))) fun x16 =>
cond x16 (bnd (decide (a2 < (a1.Master.Costs.length : Int))) fun x17 =>
cond x17 ((ix a1.Master.Methods a2).bind fun x18 =>
bnd (decide ((x18.length : Int) ≥ (a1.Master.Weights.length : Int))) fun x19 =>
cond x19 ((ix a1.Master.Costs a2).bind fun x20 =>
bnd (decide ((x20.length : Int) ≥ (a1.Master.Weights.length : Int))) fun x21 =>
some (x21 : Bool)) (some (false : Bool))) (some (false : Bool))) (some (false : Bool))) (some (false : Bool))) (some (false : Bool))).bind <| fun y1_1 =>
some ((y1_1 : Bool)))
theorem d_stock_is_c {a1 : GState} {a2 : Int} {a3 : Int} {r : Bool} (h0 : d_stock_is a1 a2 a3 = some r) : PP Tryz.prog 71 [.agg (GState.av a1), int a2, int a3] (fun y => y = boo r) := by
  unfold d_stock_is at h0
  refine pp_of_pc (R0 := fun y H => Cv (frzH H) y (boo r)) ?_ (fun y H hc => ⟨_, rfl, pvB r, hc⟩)
  refine pcw (c := _) Tryz.func71 rfl rfl ?_; intro Q hret hnorm
  refine tc tbk 2 (.mk ?_)
  refine rse rfl rfl rfl (yl_box 1 .any rfl rfl rfl) ?_; rintro _ _ ⟨v4, -, rfl, rfl⟩
  refine tr tbk 4 (.mk ?_)
  refine jn h0 [1, 3, 6] [1] (fun (a : Bool) (k : Unit) => [(29, boo a)]) (fun a k => []) ⟨fun j5 h1 => ?_, ?_⟩
  refine tc tbk 2 (.mk ?_)
  refine nb tbk h1 fun x6 h1 => ?_
  refine tr tbk 1 (.mk ?_)
  cases x6
  replace h1 := cf h1
  refine tr tbk 3 (.mk ?_)
  refine rst rfl rfl rfl (yv_len_sl rfl Tryz.underlying27 rfl (lst_len _)) ?_
  refine nb tbk h1 fun x7 h1 => ?_
  refine tr tbk 2 (.mk ?_)
  cases x7
  replace h1 := cf h1
  refine tr tbk 1 (.mk ?_)
  refine nb tbk h1 fun x8 h1 => ?_
  refine tr tbk 2 (.mk ?_)
  cases x8
  replace h1 := cf h1
  refine tr tbk 4 (.mk ?_)
  refine rst rfl rfl rfl (yv_len_sl rfl Tryz.underlying23 rfl (lst_len _)) ?_
  refine nb tbk h1 fun x9 h1 => ?_
  refine tr tbk 2 (.mk ?_)
  exact lf h1 () leA
  replace h1 := ct h1
  refine tr tbk 8 (.mk ?_)
  exact lf h1 () leA
  replace h1 := ct h1
  refine tr tbk 12 (.mk ?_)
  exact lf h1 () leA
  replace h1 := ct h1
  refine tr tbk 19 (.mk ?_)
  exact lf h1 () leA
  rintro y0_1 _ h0
  cases y0_1
  replace h0 := cf h0
  refine tc tbk 3 (.mk ?_)
  refine c_drawE [0, 1, 0, 7, 15, 0, 32, 96, 224, 0, 543, 2047] (rl [(0, [1]), (1, [1]), (5, [1]), (6, [1]), (7, [1])] []) (fun i => [1]) (rl [(9, false), (10, false)] true) [0, 1, 2, 3, 4, 5, 6, 7, 8, 9, 10, 11] mixed (by kernel_rfl) ?_; intro K hK
  refine eF fo32_1 ?_
  refine eL sh27 ?_
  refine eM ?_
  obtain ⟨x10, e10, h0⟩ := bind_e h0
  refine eP (fun H hH => yv_to (y := .pp [int x10.Now, boo x10.Closed, lst 4 GPool.av x10.Pools, lst 1 fI x10.Bal, lst 11 GRoll.av x10.Rolls, lst 1 fI x10.Prices, lst 1 fI x10.Down, lst 8 GEnt.av x10.Ahead]) (yv_ixT rfl Tryz.underlying27 sh42 rfl rfl e10) (congrArg AV.pp (GEnt.av_eq x10))) ?_
  refine eP (fun H hH => yv_load rfl sh42 rfl (.pp _) rfl) ?_
  refine eF fo32_0 ?_
  refine eF fo26_2 ?_
  refine eL sh23 ?_
  refine eP (fun H hH => yv_len_sl rfl Tryz.underlying23 rfl (lst_len _)) ?_
  refine de_eff rfl rfl rfl rfl (yl_alloc 2 .any rfl z42 rfl) (by rintro _ _ ⟨v11, -, rfl, rfl⟩; exact ⟨rfl, trivial⟩) ?_; rintro _ _ ⟨v11, -, rfl, rfl⟩
  refine de_eff0 rfl rfl rfl rfl (Yield.weak (yl_ob (ob' := (⟨42, 8, true, true, v11, [[int x10.Now, boo x10.Closed, lst 4 GPool.av x10.Pools, lst 1 fI x10.Bal, lst 11 GRoll.av x10.Rolls, lst 1 fI x10.Prices, lst 1 fI x10.Down, lst 8 GEnt.av x10.Ahead]]⟩ : AObj)) (yl_store rfl sh42 rfl rfl rfl rfl rfl rfl rfl rfl rfl) rfl) (fun _ h => h) (fun _ _ => trivial)) (by rintro _ _ ⟨rfl, rfl⟩; exact ⟨rfl, trivial⟩) ?_; rintro _ _ ⟨rfl, rfl⟩
  refine eA ?_
  refine de_nil (hK _ ?_)
  refine tc tbk 1 (.mk ?_)
  refine jn h0 [] [] (fun (a : Bool) (k : Unit) => [(6, boo a)]) (fun a k => []) ⟨fun j12 h1 => ?_, ?_⟩
  refine tc tbk 3 (.mk ?_)
  refine rst rfl rfl rfl (yv_len_sl rfl Tryz.underlying39 rfl (lst_len _)) ?_
  refine tr tbk 1 (.mk ?_)
  refine ni tbk h1 fun x13 h1 => ?_
  refine nb tbk h1 fun x14 h1 => ?_
  refine tr tbk 1 (.mk ?_)
  cases x14
  replace h1 := cf h1
  refine tr tbk 46 (.mk ?_)
  exact lf h1 () leA
  replace h1 := ct h1
  refine tr tbk 2 (.mk ?_)
  refine rst rfl rfl rfl (yv_len_sl rfl Tryz.underlying40 rfl (lst_len _)) ?_
  refine tr tbk 1 (.mk ?_)
  refine nb tbk h1 fun x15 h1 => ?_
  refine tr tbk 2 (.mk ?_)
  cases x15
  replace h1 := cf h1
  refine tr tbk 39 (.mk ?_)
  exact lf h1 () leA
  replace h1 := ct h1
  refine tr tbk 4 (.mk ?_)
  refine rst rfl rfl rfl (yv_len_sl rfl Tryz.underlying24 rfl (lst_len _)) ?_
  refine nb tbk h1 fun x16 h1 => ?_
  refine tr tbk 2 (.mk ?_)
  cases x16
  replace h1 := cf h1
  refine tr tbk 31 (.mk ?_)
  exact lf h1 () leA
  replace h1 := ct h1
  refine tr tbk 4 (.mk ?_)
  refine rst rfl rfl rfl (yv_len_sl rfl Tryz.underlying24 rfl (lst_len _)) ?_
  refine nb tbk h1 fun x17 h1 => ?_
  refine tr tbk 2 (.mk ?_)
  cases x17
  replace h1 := cf h1
  refine tr tbk 23 (.mk ?_)
  exact lf h1 () leA
  replace h1 := ct h1
  refine tr tbk 4 (.mk ?_)
  obtain ⟨x18, e18, h1⟩ := bind_e h1
  refine rst rfl rfl rfl (yv_ixT rfl Tryz.underlying24 sh23 rfl rfl e18) ?_
  refine tr tbk 1 (.mk ?_)
  refine rst rfl rfl rfl (yv_len_sl rfl Tryz.underlying23 rfl (lst_len _)) ?_
  refine tr tbk 1 (.mk ?_)
  refine nb tbk h1 fun x19 h1 => ?_
  refine tr tbk 2 (.mk ?_)
  cases x19
  replace h1 := cf h1
  refine tr tbk 12 (.mk ?_)
  exact lf h1 () leA
  replace h1 := ct h1
  refine tr tbk 4 (.mk ?_)
  obtain ⟨x20, e20, h1⟩ := bind_e h1
  refine rst rfl rfl rfl (yv_ixT rfl Tryz.underlying24 sh23 rfl rfl e20) ?_
  refine tr tbk 1 (.mk ?_)
  refine rst rfl rfl rfl (yv_len_sl rfl Tryz.underlying23 rfl (lst_len _)) ?_
  refine tr tbk 1 (.mk ?_)
  refine nb tbk h1 fun x21 h1 => ?_
  refine tr tbk 3 (.mk ?_)
  exact lf h1 () leA
  rintro y1_1 _ h0
  obtain rfl := nxt_e h0
  refine w_ret (hret _ _ _ (.tmp rfl .nil) (fun _ _ h => h) ?_)
  exact .refl _
  replace h0 := ct h0
  refine tc tbk 5 (.mk ?_)
  obtain rfl := nxt_e h0
  refine w_ret (hret _ _ _ (.tmp rfl .nil) (fun _ _ h => h) ?_)
  exact .refl _
def d_stock_Ready (a1 : GState) (a2 : Int) (a3 : Int) : Option (Int) :=
(d_stock_is a1 a2 a3).bind fun x5 =>
bnd (!x5) fun x6 =>
cond x6 (some ((4 : Int))) ((ix a1.Ents a2).bind fun x7 =>
bnd x7.Closed fun x8 =>
cond x8 (some ((7 : Int))) (some ((0 : Int))))
theorem d_stock_Ready_c {a1 : GState} {a2 : Int} {a3 : Int} {r : Int} (h0 : d_stock_Ready a1 a2 a3 = some r) : PP Tryz.prog 37 [.agg (GState.av a1), int a2, int a3] (fun y => y = int r) := by
  unfold d_stock_Ready at h0
  refine pp_of_pc (R0 := fun y H => Cv (frzH H) y (int r)) ?_ (fun y H hc => ⟨_, rfl, pvI r, hc⟩)
  refine pcw (c := _) Tryz.func37 rfl rfl ?_; intro Q hret hnorm
  refine tc tbk 2 (.mk ?_)
  refine rse rfl rfl rfl (yl_box 1 .any rfl rfl rfl) ?_; rintro _ _ ⟨v4, -, rfl, rfl⟩
  refine tr tbk 9 (.mk ?_)
  obtain ⟨x5, e5, h0⟩ := bind_e h0
  refine rst rfl rfl rfl (yv_callP rfl rfl (.cons rfl (.cons rfl (.cons rfl .nil))) cal71 (CvL.refl _) (d_stock_is_c e5)) ?_
  refine nb tbk h0 fun x6 h0 => ?_
  refine tr tbk 2 (.mk ?_)
  cases x6
  replace h0 := cf h0
  refine tc tbk 6 (.mk ?_)
  obtain ⟨x7, e7, h0⟩ := bind_e h0
  refine rst rfl rfl rfl (yv_to (y := .pp [int x7.Now, boo x7.Closed, lst 4 GPool.av x7.Pools, lst 1 fI x7.Bal, lst 11 GRoll.av x7.Rolls, lst 1 fI x7.Prices, lst 1 fI x7.Down, lst 8 GEnt.av x7.Ahead]) (yv_ixT rfl Tryz.underlying27 sh42 rfl rfl e7) (congrArg AV.pp (GEnt.av_eq x7))) ?_
  refine tr tbk 4 (.mk ?_)
  obtain ⟨x8, e8, h0⟩ := bnd_e h0
  refine c_as (t := 13) (boo x8) rfl (congrArg boo e8) ?_
  refine c_as (t := 19) (boo x8) rfl (congrArg boo e8) ?_
  cases x8
  replace h0 := cf h0
  refine tc tbk 7 (.mk ?_)
  obtain rfl := nxt_e h0
  refine w_ret (hret _ _ _ (.tmp rfl .nil) (fun _ _ h => h) ?_)
  exact .refl _
  replace h0 := ct h0
  refine tc tbk 5 (.mk ?_)
  obtain rfl := nxt_e h0
  refine w_ret (hret _ _ _ (.tmp rfl .nil) (fun _ _ h => h) ?_)
  exact .refl _
  replace h0 := ct h0
  refine tc tbk 5 (.mk ?_)
  obtain rfl := nxt_e h0
  refine w_ret (hret _ _ _ (.tmp rfl .nil) (fun _ _ h => h) ?_)
  exact .refl _
def d_money_in (a1 : Int) : Option (Bool) :=
(show Option (Bool) from
bnd (decide (a1 ≥ (-288230376151711744))) fun x3 =>
cond x3 (bnd (decide (a1 ≤ 288230376151711744)) fun x4 =>
some (x4 : Bool)) (some (false : Bool))).bind <| fun y0_1 =>
some ((y0_1 : Bool))
theorem d_money_in_c {a1 : Int} {r : Bool} (h0 : d_money_in a1 = some r) : PP Tryz.prog 129 [int a1] (fun y => y = boo r) := by
  unfold d_money_in at h0
  refine pp_of_pc (R0 := fun y H => Cv (frzH H) y (boo r)) ?_ (fun y H hc => ⟨_, rfl, pvB r, hc⟩)
  refine pcw (c := _) Tryz.func129 rfl rfl ?_; intro Q hret hnorm
  refine tc tbk 5 (.mk ?_)
  refine jn h0 [] [] (fun (a : Bool) (k : Unit) => [(2, boo a)]) (fun a k => []) ⟨fun j2 h1 => ?_, ?_⟩
  refine tc tbk 2 (.mk ?_)
  refine nb tbk h1 fun x3 h1 => ?_
  refine tr tbk 1 (.mk ?_)
  cases x3
  replace h1 := cf h1
  refine tr tbk 5 (.mk ?_)
  exact lf h1 () leA
  replace h1 := ct h1
  refine tr tbk 1 (.mk ?_)
  refine nb tbk h1 fun x4 h1 => ?_
  refine tr tbk 3 (.mk ?_)
  exact lf h1 () leA
  rintro y0_1 _ h0
  obtain rfl := nxt_e h0
  refine w_ret (hret _ _ _ (.tmp rfl .nil) (fun _ _ h => h) ?_)
  exact .refl _
def d_money_Wide (a1 : Int) (a2 : Int) : Option (Int × Int) :=
bnd (wu64 a1) fun x3 =>
bnd (wu64 a2) fun x4 =>
bnd (x3.tmod 4294967296) fun x5 =>
bnd (x4.tmod 4294967296) fun x6 =>
bnd (wu64 (x5 * x6)) fun x7 =>
bnd (wu64 (x3.tdiv 4294967296)) fun x8 =>
bnd (x4.tmod 4294967296) fun x9 =>
bnd (wu64 (x8 * x9)) fun x10 =>
bnd (x3.tmod 4294967296) fun x11 =>
bnd (wu64 (x4.tdiv 4294967296)) fun x12 =>
bnd (wu64 (x11 * x12)) fun x13 =>
bnd (wu64 (x3.tdiv 4294967296)) fun x14 =>
bnd (wu64 (x4.tdiv 4294967296)) fun x15 =>
bnd (wu64 (x14 * x15)) fun x16 =>
bnd (wu64 (x7.tdiv 4294967296)) fun x18 =>
bnd (x10.tmod 4294967296) fun x19 =>
bnd (wu64 (x18 + x19)) fun x20 =>
bnd (x13.tmod 4294967296) fun x21 =>
bnd (wu64 (x20 + x21)) fun x22 =>
bnd (wu64 (x10.tdiv 4294967296)) fun x23 =>
bnd (wu64 (x16 + x23)) fun x24 =>
bnd (wu64 (x13.tdiv 4294967296)) fun x25 =>
bnd (wu64 (x24 + x25)) fun x26 =>
bnd (wu64 (x22.tdiv 4294967296)) fun x27 =>
bnd (wu64 (x26 + x27)) fun x28 =>
bnd (wu64 (x3 * x4)) fun x29 =>
some ((x28 : Int), (x29 : Int))
theorem d_money_Wide_c {a1 : Int} {a2 : Int} {r : Int × Int} (h0 : d_money_Wide a1 a2 = some r) : PP Tryz.prog 154 [int a1, int a2] (fun y => y = .tup [.sc (.int .u64 r.1), .sc (.int .u64 r.2)]) := by
  unfold d_money_Wide at h0
  refine pp_of_pc (R0 := fun y H => Cv (frzH H) y (.tup [.sc (.int .u64 r.1), .sc (.int .u64 r.2)])) ?_ (fun y H hc => ⟨_, rfl, .tup (pvl2 ((pvK .u64) (r.1)) ((pvK .u64) (r.2))), hc⟩)
  refine pcw (c := _) Tryz.func154 rfl rfl ?_; intro Q hret hnorm
  refine tc tbk 8 (.mk ?_)
  refine ni tbk h0 fun x3 h0 => ?_
  refine tr tbk 1 (.mk ?_)
  refine ni tbk h0 fun x4 h0 => ?_
  refine tr tbk 6 (.mk ?_)
  refine ni tbk h0 fun x5 h0 => ?_
  refine tr tbk 1 (.mk ?_)
  refine ni tbk h0 fun x6 h0 => ?_
  refine ni tbk h0 fun x7 h0 => ?_
  refine tr tbk 1 (.mk ?_)
  refine ni tbk h0 fun x8 h0 => ?_
  refine tr tbk 1 (.mk ?_)
  refine ni tbk h0 fun x9 h0 => ?_
  refine ni tbk h0 fun x10 h0 => ?_
  refine tr tbk 1 (.mk ?_)
  refine ni tbk h0 fun x11 h0 => ?_
  refine tr tbk 1 (.mk ?_)
  refine ni tbk h0 fun x12 h0 => ?_
  refine ni tbk h0 fun x13 h0 => ?_
  refine tr tbk 1 (.mk ?_)
  refine ni tbk h0 fun x14 h0 => ?_
  refine tr tbk 1 (.mk ?_)
  refine ni tbk h0 fun x15 h0 => ?_
  refine ni tbk h0 fun x16 h0 => ?_
  refine rst rfl rfl rfl (yv_buildA (cs := [.sc (.int .u64 x7), .sc (.int .u64 x10), .sc (.int .u64 x13), .sc (.int .u64 x16)]) (ps := [(0, _), (1, _), (2, _), (3, _)]) rfl Tryz.underlying203 sh166 z203 rfl (.cons rfl (.cons rfl (.cons rfl (.cons rfl .nil)))) (by kernel_rfl)) ?_
  refine rse rfl rfl rfl (yl_alloc 1 .any rfl z203 rfl) ?_; rintro _ _ ⟨v17, -, rfl, rfl⟩
  refine sS ⟨203, 4, true, true, v17, [[.sc (.int .u64 x7), .sc (.int .u64 x10), .sc (.int .u64 x13), .sc (.int .u64 x16)]]⟩ sh203 ?_
  refine tr tbk 3 (.mk ?_)
  refine rst rfl rfl rfl (yv_to (y := .pt 1 v17 0 0) (yv_indexAddrA rfl Tryz.underlying203 sh166 rfl rfl rfl rfl rfl (by decide)) rfl) ?_
  refine tr tbk 1 (.mk ?_)
  refine ni tbk h0 fun x18 h0 => ?_
  refine rst rfl rfl rfl (yv_to (y := .pt 1 v17 0 1) (yv_indexAddrA rfl Tryz.underlying203 sh166 rfl rfl rfl rfl rfl (by decide)) rfl) ?_
  refine tr tbk 1 (.mk ?_)
  refine ni tbk h0 fun x19 h0 => ?_
  refine ni tbk h0 fun x20 h0 => ?_
  refine rst rfl rfl rfl (yv_to (y := .pt 1 v17 0 2) (yv_indexAddrA rfl Tryz.underlying203 sh166 rfl rfl rfl rfl rfl (by decide)) rfl) ?_
  refine tr tbk 1 (.mk ?_)
  refine ni tbk h0 fun x21 h0 => ?_
  refine ni tbk h0 fun x22 h0 => ?_
  refine tr tbk 4 (.mk ?_)
  refine rst rfl rfl rfl (yv_to (y := .pt 1 v17 0 3) (yv_indexAddrA rfl Tryz.underlying203 sh166 rfl rfl rfl rfl rfl (by decide)) rfl) ?_
  refine tr tbk 1 (.mk ?_)
  refine rst rfl rfl rfl (yv_to (y := .pt 1 v17 0 1) (yv_indexAddrA rfl Tryz.underlying203 sh166 rfl rfl rfl rfl rfl (by decide)) rfl) ?_
  refine tr tbk 1 (.mk ?_)
  refine ni tbk h0 fun x23 h0 => ?_
  refine ni tbk h0 fun x24 h0 => ?_
  refine rst rfl rfl rfl (yv_to (y := .pt 1 v17 0 2) (yv_indexAddrA rfl Tryz.underlying203 sh166 rfl rfl rfl rfl rfl (by decide)) rfl) ?_
  refine tr tbk 1 (.mk ?_)
  refine ni tbk h0 fun x25 h0 => ?_
  refine ni tbk h0 fun x26 h0 => ?_
  refine tr tbk 1 (.mk ?_)
  refine ni tbk h0 fun x27 h0 => ?_
  refine ni tbk h0 fun x28 h0 => ?_
  refine tr tbk 2 (.mk ?_)
  refine ni tbk h0 fun x29 h0 => ?_
  refine tr tbk 3 (.mk ?_)
  obtain rfl := nxt_e h0
  refine w_ret (hret _ _ _ (.tmp rfl (.tmp rfl .nil)) (fun _ _ h => h) ?_)
  exact .refl _
def d_math_bits_Len64 (a1 : Int) : Option (Int) :=
bnd (decide (a1 ≥ 4294967296)) fun x2 =>
(show Option (Int × Int) from
cond x2 (bnd (a1.fdiv (2 ^ (min (32 : Int).toNat IntKind.u64.bits))) fun x4 =>
some ((x4 : Int), (32 : Int))) (some ((a1 : Int), (0 : Int)))).bind <| p2 fun (y0_1 : Int) (y0_2 : Int) =>
bnd (decide (y0_1 ≥ 65536)) fun x5 =>
(show Option (Int × Int) from
cond x5 (bnd (y0_1.fdiv (2 ^ (min (16 : Int).toNat IntKind.u64.bits))) fun x7 =>
bnd (w64 (y0_2 + 16)) fun x8 =>
some ((x7 : Int), (x8 : Int))) (some ((y0_1 : Int), (y0_2 : Int)))).bind <| p2 fun (y1_1 : Int) (y1_2 : Int) =>
bnd (decide (y1_1 ≥ 256)) fun x9 =>
(show Option (Int × Int) from
cond x9 (bnd (y1_1.fdiv (2 ^ (min (8 : Int).toNat IntKind.u64.bits))) fun x11 =>
bnd (w64 (y1_2 + 8)) fun x12 =>
some ((x11 : Int), (x12 : Int))) (some ((y1_1 : Int), (y1_2 : Int)))).bind <| p2 fun (y2_1 : Int) (y2_2 : Int) =>
bnd (wu8 y2_1) fun x13 =>
(ix ([0, 1, 2, 2, 3, 3, 3, 3, 4, 4, 4, 4, 4, 4, 4, 4, 5, 5, 5, 5, 5, 5, 5, 5, 5, 5, 5, 5, 5, 5, 5, 5, 6, 6, 6, 6, 6, 6, 6, 6, 6, 6, 6, 6, 6, 6, 6, 6, 6, 6, 6, 6, 6, 6, 6, 6, 6, 6, 6, 6, 6, 6, 6, 6, 7, 7, 7, 7, 7, 7, 7, 7, 7, 7, 7, 7, 7, 7, 7, 7, 7, 7, 7, 7, 7, 7, 7, 7, 7, 7, 7, 7, 7, 7, 7, 7, 7, 7, 7, 7, 7, 7, 7, 7, 7, 7, 7, 7, 7, 7, 7, 7, 7, 7, 7, 7, 7, 7, 7, 7, 7, 7, 7, 7, 7, 7, 7, 7, 8, 8, 8, 8, 8, 8, 8, 8, 8, 8, 8, 8, 8, 8, 8, 8, 8, 8, 8, 8, 8, 8, 8, 8, 8, 8, 8, 8, 8, 8, 8, 8, 8, 8, 8, 8, 8, 8, 8, 8, 8, 8, 8, 8, 8, 8, 8, 8, 8, 8, 8, 8, 8, 8, 8, 8, 8, 8, 8, 8, 8, 8, 8, 8, 8, 8, 8, 8, 8, 8, 8, 8, 8, 8, 8, 8, 8, 8, 8, 8, 8, 8, 8, 8, 8, 8, 8, 8, 8, 8, 8, 8, 8, 8, 8, 8, 8, 8, 8, 8, 8, 8, 8, 8, 8, 8, 8, 8, 8, 8, 8, 8, 8, 8, 8, 8, 8, 8, 8, 8, 8, 8, 8, 8, 8, 8, 8, 8] : List UInt8) x13).bind fun x14 =>
bnd (w64 (x14.toNat : Int)) fun x15 =>
bnd (w64 (y2_2 + x15)) fun x16 =>
some ((x16 : Int))
theorem d_math_bits_Len64_c {a1 : Int} {r : Int} (h0 : d_math_bits_Len64 a1 = some r) : PP Tryz.prog 166 [.sc (.int .u64 a1)] (fun y => y = int r) := by
  unfold d_math_bits_Len64 at h0
  refine pp_of_pc (R0 := fun y H => Cv (frzH H) y (int r)) ?_ (fun y H hc => ⟨_, rfl, pvI r, hc⟩)
  refine pcw (c := _) Tryz.func166 rfl rfl ?_; intro Q hret hnorm
  refine tc tbk 8 (.mk ?_)
  refine nb tbk h0 fun x2 h0 => ?_
  refine tr tbk 1 (.mk ?_)
  refine jn h0 [] [] (fun (a : Int × Int) (k : Unit) => [(0, .sc (.int .u64 a.1)), (2, int a.2)]) (fun a k => []) ⟨fun j3 h1 => ?_, ?_⟩
  cases x2
  replace h1 := cf h1
  refine tc tbk 2 (.mk ?_)
  exact lf h1 () leA
  replace h1 := ct h1
  refine tc tbk 4 (.mk ?_)
  refine ni tbk h1 fun x4 h1 => ?_
  refine tr tbk 5 (.mk ?_)
  exact lf h1 () leA
  rintro ⟨y0_1, y0_2⟩ _ h0
  replace h0 := p2_e h0
  refine tc tbk 4 (.mk ?_)
  refine nb tbk h0 fun x5 h0 => ?_
  refine tr tbk 1 (.mk ?_)
  refine jn h0 [] [] (fun (a : Int × Int) (k : Unit) => [(0, .sc (.int .u64 a.1)), (2, int a.2)]) (fun a k => []) ⟨fun j6 h1 => ?_, ?_⟩
  cases x5
  replace h1 := cf h1
  refine tc tbk 2 (.mk ?_)
  exact lf h1 () leA
  replace h1 := ct h1
  refine tc tbk 4 (.mk ?_)
  refine ni tbk h1 fun x7 h1 => ?_
  refine tr tbk 4 (.mk ?_)
  refine ni tbk h1 fun x8 h1 => ?_
  refine tr tbk 2 (.mk ?_)
  exact lf h1 () leA
  rintro ⟨y1_1, y1_2⟩ _ h0
  replace h0 := p2_e h0
  refine tc tbk 4 (.mk ?_)
  refine nb tbk h0 fun x9 h0 => ?_
  refine tr tbk 1 (.mk ?_)
  refine jn h0 [] [] (fun (a : Int × Int) (k : Unit) => [(0, .sc (.int .u64 a.1)), (2, int a.2)]) (fun a k => []) ⟨fun j10 h1 => ?_, ?_⟩
  cases x9
  replace h1 := cf h1
  refine tc tbk 2 (.mk ?_)
  exact lf h1 () leA
  replace h1 := ct h1
  refine tc tbk 4 (.mk ?_)
  refine ni tbk h1 fun x11 h1 => ?_
  refine tr tbk 4 (.mk ?_)
  refine ni tbk h1 fun x12 h1 => ?_
  refine tr tbk 2 (.mk ?_)
  exact lf h1 () leA
  rintro ⟨y2_1, y2_2⟩ _ h0
  replace h0 := p2_e h0
  refine tc tbk 4 (.mk ?_)
  refine ni tbk h0 fun x13 h0 => ?_
  obtain ⟨x14, e14, h0⟩ := bind_e h0
  refine rst rfl rfl rfl (yv_index_str rfl Tryz.underlying9 rfl rfl (ix_e e14).1 (ix_e e14).2) ?_
  refine ni tbk h0 fun x15 h0 => ?_
  refine ni tbk h0 fun x16 h0 => ?_
  refine tr tbk 2 (.mk ?_)
  obtain rfl := nxt_e h0
  refine w_ret (hret _ _ _ (.tmp rfl .nil) (fun _ _ h => h) ?_)
  exact .refl _
def d_math_bits_LeadingZeros64 (a1 : Int) : Option (Int) :=
(d_math_bits_Len64 a1).bind fun x2 =>
bnd (w64 (64 - x2)) fun x3 =>
some ((x3 : Int))
theorem d_math_bits_LeadingZeros64_c {a1 : Int} {r : Int} (h0 : d_math_bits_LeadingZeros64 a1 = some r) : PP Tryz.prog 162 [.sc (.int .u64 a1)] (fun y => y = int r) := by
  unfold d_math_bits_LeadingZeros64 at h0
  refine pp_of_pc (R0 := fun y H => Cv (frzH H) y (int r)) ?_ (fun y H hc => ⟨_, rfl, pvI r, hc⟩)
  refine pcw (c := _) Tryz.func162 rfl rfl ?_; intro Q hret hnorm
  refine tc tbk 7 (.mk ?_)
  obtain ⟨x2, e2, h0⟩ := bind_e h0
  refine rst rfl rfl rfl (yv_callP rfl rfl (.cons rfl .nil) cal166 (CvL.refl _) (d_math_bits_Len64_c e2)) ?_
  refine ni tbk h0 fun x3 h0 => ?_
  refine tr tbk 2 (.mk ?_)
  obtain rfl := nxt_e h0
  refine w_ret (hret _ _ _ (.tmp rfl .nil) (fun _ _ h => h) ?_)
  exact .refl _
def d_math_bits_Div64_L0 (x11 : Int) (x12 : Int) (x21 : Int) : Nat → Int → Int → Option (Int)
  | 0, _, _ => none
  | n + 1, y0_1, y0_2 =>
    (show Option (Bool) from
    bnd (decide (y0_1 ≥ 4294967296)) fun x29 =>
    cond x29 (some (true : Bool)) (bnd (wu64 (y0_1 * x12)) fun x30 =>
    bnd (wu64 (4294967296 * y0_2)) fun x31 =>
    bnd (wu64 (x31 + x21)) fun x32 =>
    bnd (decide (x30 > x32)) fun x33 =>
    some (x33 : Bool))).bind <| fun y1_1 =>
    cond y1_1 (bnd (wu64 (y0_1 - 1)) fun x34 =>
    bnd (wu64 (y0_2 + x11)) fun x35 =>
    bnd (decide (x35 ≥ 4294967296)) fun x36 =>
    cond x36 (some (x34 : Int)) (d_math_bits_Div64_L0 x11 x12 x21 n (x34 : Int) (x35 : Int))) (some (y0_1 : Int))
def d_math_bits_Div64_L1 (x11 : Int) (x12 : Int) (x22 : Int) : Nat → Int → Int → Option (Int)
  | 0, _, _ => none
  | n + 1, y3_1, y3_2 =>
    (show Option (Bool) from
    bnd (decide (y3_2 ≥ 4294967296)) fun x47 =>
    cond x47 (some (true : Bool)) (bnd (wu64 (y3_2 * x12)) fun x48 =>
    bnd (wu64 (4294967296 * y3_1)) fun x49 =>
    bnd (wu64 (x49 + x22)) fun x50 =>
    bnd (decide (x48 > x50)) fun x51 =>
    some (x51 : Bool))).bind <| fun y4_1 =>
    cond y4_1 (bnd (wu64 (y3_2 - 1)) fun x52 =>
    bnd (wu64 (y3_1 + x11)) fun x53 =>
    bnd (decide (x53 ≥ 4294967296)) fun x54 =>
    cond x54 (some (x52 : Int)) (d_math_bits_Div64_L1 x11 x12 x22 n (x53 : Int) (x52 : Int))) (some (y3_2 : Int))
def d_math_bits_Div64 (n : Nat) (a1 : Int) (a2 : Int) (a3 : Int) : Option (Int × Int) :=
bnd (decide (a3 = 0)) fun x4 =>
cond x4 (none) (bnd (decide (a3 ≤ a1)) fun x5 =>
cond x5 (none) (bnd (decide (a1 = 0)) fun x6 =>
cond x6 (asrt (a3 ≠ 0) <|
bnd (wu64 (a2.tdiv a3)) fun x64 =>
asrt (a3 ≠ 0) <|
bnd (a2.tmod a3) fun x66 =>
some ((x64 : Int), (x66 : Int))) ((d_math_bits_LeadingZeros64 a3).bind fun x7 =>
bnd (wu64 x7) fun x8 =>
asrt ((0 : Int) ≤ x8) <|
bnd (wu64 (a3 * (2 ^ (min x8.toNat IntKind.u64.bits)))) fun x10 =>
bnd (x10.fdiv (2 ^ (min (32 : Int).toNat IntKind.u64.bits))) fun x11 =>
bnd (wu64 ((BitVec.ofInt IntKind.u64.bits x10 &&& BitVec.ofInt IntKind.u64.bits 4294967295).toNat : Int)) fun x12 =>
asrt ((0 : Int) ≤ x8) <|
bnd (wu64 (a1 * (2 ^ (min x8.toNat IntKind.u64.bits)))) fun x14 =>
bnd (wu64 (64 - x8)) fun x15 =>
asrt ((0 : Int) ≤ x15) <|
bnd (a2.fdiv (2 ^ (min x15.toNat IntKind.u64.bits))) fun x17 =>
bnd (wu64 ((BitVec.ofInt IntKind.u64.bits x14 ||| BitVec.ofInt IntKind.u64.bits x17).toNat : Int)) fun x18 =>
asrt ((0 : Int) ≤ x8) <|
bnd (wu64 (a2 * (2 ^ (min x8.toNat IntKind.u64.bits)))) fun x20 =>
bnd (x20.fdiv (2 ^ (min (32 : Int).toNat IntKind.u64.bits))) fun x21 =>
bnd (wu64 ((BitVec.ofInt IntKind.u64.bits x20 &&& BitVec.ofInt IntKind.u64.bits 4294967295).toNat : Int)) fun x22 =>
asrt (x11 ≠ 0) <|
bnd (wu64 (x18.tdiv x11)) fun x24 =>
bnd (wu64 (x24 * x11)) fun x25 =>
bnd (wu64 (x18 - x25)) fun x26 =>
(show Option (Int) from
d_math_bits_Div64_L0 x11 x12 x21 n (x24 : Int) (x26 : Int)).bind <| fun y2_1 =>
bnd (wu64 (x18 * 4294967296)) fun x37 =>
bnd (wu64 (x37 + x21)) fun x38 =>
bnd (wu64 (y2_1 * x10)) fun x39 =>
bnd (wu64 (x38 - x39)) fun x40 =>
asrt (x11 ≠ 0) <|
bnd (wu64 (x40.tdiv x11)) fun x42 =>
bnd (wu64 (x42 * x11)) fun x43 =>
bnd (wu64 (x40 - x43)) fun x44 =>
(show Option (Int) from
d_math_bits_Div64_L1 x11 x12 x22 n (x44 : Int) (x42 : Int)).bind <| fun y5_1 =>
bnd (wu64 (y2_1 * 4294967296)) fun x55 =>
bnd (wu64 (x55 + y5_1)) fun x56 =>
bnd (wu64 (x40 * 4294967296)) fun x57 =>
bnd (wu64 (x57 + x22)) fun x58 =>
bnd (wu64 (y5_1 * x10)) fun x59 =>
bnd (wu64 (x58 - x59)) fun x60 =>
asrt ((0 : Int) ≤ x8) <|
bnd (x60.fdiv (2 ^ (min x8.toNat IntKind.u64.bits))) fun x62 =>
some ((x56 : Int), (x62 : Int)))))
theorem d_math_bits_Div64_c {n : Nat} {a1 : Int} {a2 : Int} {a3 : Int} {r : Int × Int} (h0 : d_math_bits_Div64 n a1 a2 a3 = some r) : PP Tryz.prog 155 [.sc (.int .u64 a1), .sc (.int .u64 a2), .sc (.int .u64 a3)] (fun y => y = .tup [.sc (.int .u64 r.1), .sc (.int .u64 r.2)]) := by
  unfold d_math_bits_Div64 at h0
  refine pp_of_pc (R0 := fun y H => Cv (frzH H) y (.tup [.sc (.int .u64 r.1), .sc (.int .u64 r.2)])) ?_ (fun y H hc => ⟨_, rfl, .tup (pvl2 ((pvK .u64) (r.1)) ((pvK .u64) (r.2))), hc⟩)
  refine pcw (c := _) Tryz.func155 rfl rfl ?_; intro Q hret hnorm
  refine tc tbk 9 (.mk ?_)
  refine nb tbk h0 fun x4 h0 => ?_
  refine tr tbk 1 (.mk ?_)
  cases x4
  replace h0 := cf h0
  refine tc tbk 7 (.mk ?_)
  refine nb tbk h0 fun x5 h0 => ?_
  refine tr tbk 1 (.mk ?_)
  cases x5
  replace h0 := cf h0
  refine tc tbk 6 (.mk ?_)
  refine nb tbk h0 fun x6 h0 => ?_
  refine tr tbk 1 (.mk ?_)
  cases x6
  replace h0 := cf h0
  refine tc tbk 5 (.mk ?_)
  obtain ⟨x7, e7, h0⟩ := bind_e h0
  refine rst rfl rfl rfl (yv_callP rfl rfl (.cons rfl .nil) cal162 (CvL.refl _) (d_math_bits_LeadingZeros64_c e7)) ?_
  refine ni tbk h0 fun x8 h0 => ?_
  refine tr tbk 6 (.mk ?_)
  obtain ⟨p9, h0⟩ := asrt_e h0
  obtain ⟨x10, e10, h0⟩ := bnd_e h0
  refine rst rfl rfl rfl (yv_shl rfl rfl rfl p9 e10) ?_
  refine tr tbk 5 (.mk ?_)
  refine ni tbk h0 fun x11 h0 => ?_
  refine tr tbk 5 (.mk ?_)
  obtain ⟨x12, e12, h0⟩ := bnd_e h0
  refine rst rfl rfl rfl (yv_and rfl rfl rfl e12) ?_
  refine tr tbk 6 (.mk ?_)
  obtain ⟨p13, h0⟩ := asrt_e h0
  obtain ⟨x14, e14, h0⟩ := bnd_e h0
  refine rst rfl rfl rfl (yv_shl rfl rfl rfl p13 e14) ?_
  refine tr tbk 2 (.mk ?_)
  refine ni tbk h0 fun x15 h0 => ?_
  obtain ⟨p16, h0⟩ := asrt_e h0
  obtain ⟨x17, e17, h0⟩ := bnd_e h0
  refine rst rfl rfl rfl (yv_shr rfl rfl rfl p16 e17) ?_
  obtain ⟨x18, e18, h0⟩ := bnd_e h0
  refine rst rfl rfl rfl (yv_or rfl rfl rfl e18) ?_
  refine tr tbk 6 (.mk ?_)
  obtain ⟨p19, h0⟩ := asrt_e h0
  obtain ⟨x20, e20, h0⟩ := bnd_e h0
  refine rst rfl rfl rfl (yv_shl rfl rfl rfl p19 e20) ?_
  refine tr tbk 5 (.mk ?_)
  refine ni tbk h0 fun x21 h0 => ?_
  refine tr tbk 5 (.mk ?_)
  obtain ⟨x22, e22, h0⟩ := bnd_e h0
  refine rst rfl rfl rfl (yv_and rfl rfl rfl e22) ?_
  refine tr tbk 6 (.mk ?_)
  obtain ⟨p23, h0⟩ := asrt_e h0
  obtain ⟨x24, e24, h0⟩ := bnd_e h0
  refine rst rfl rfl rfl (yv_quo rfl rfl rfl p23 e24) ?_
  refine tr tbk 7 (.mk ?_)
  refine ni tbk h0 fun x25 h0 => ?_
  refine ni tbk h0 fun x26 h0 => ?_
  refine tr tbk 3 (.mk ?_)
  refine jn h0 [2, 6, 7, 8, 9, 10, 11, 13, 14] [] (fun (a : Int) (k : Unit) => [(15, .sc (.int .u64 a))]) (fun a k => []) ⟨fun j27 h1 => ?_, ?_⟩
  refine tc tbk 1 (.mk ?_)
  refine lp (fun n (a : Int × Int) => d_math_bits_Div64_L0 x11 x12 x21 n a.1 a.2) ((x24 : Int), (x26 : Int)) () h1 [2, 6, 7, 8, 9, 10, 11, 13, 14] [] (fun (a : Int × Int) (k : Unit) => [(15, .sc (.int .u64 a.1)), (16, .sc (.int .u64 a.2))]) (fun a k => []) (fun _ => rfl) ⟨leA, ?_⟩
  rintro n ⟨y0_1, y0_2⟩ _ hm h1
  replace h1 : d_math_bits_Div64_L0 x11 x12 x21 (n + 1) y0_1 y0_2 = some _ := h1
  rw [d_math_bits_Div64_L0] at h1
  refine tc tbk 2 (.mk ?_)
  refine jn h1 [2, 6, 7, 8, 9, 10, 11, 13, 14, 15, 16] [] (fun (a : Bool) (k : Unit) => [(78, boo a)]) (fun a k => []) ⟨fun j28 h2 => ?_, ?_⟩
  refine tc tbk 2 (.mk ?_)
  refine nb tbk h2 fun x29 h2 => ?_
  refine tr tbk 1 (.mk ?_)
  cases x29
  replace h2 := cf h2
  refine tr tbk 2 (.mk ?_)
  refine ni tbk h2 fun x30 h2 => ?_
  refine tr tbk 1 (.mk ?_)
  refine ni tbk h2 fun x31 h2 => ?_
  refine tr tbk 1 (.mk ?_)
  refine ni tbk h2 fun x32 h2 => ?_
  refine nb tbk h2 fun x33 h2 => ?_
  refine tr tbk 2 (.mk ?_)
  exact lf h2 () leA
  replace h2 := ct h2
  refine tr tbk 10 (.mk ?_)
  exact lf h2 () leA
  rintro y1_1 _ h1
  cases y1_1
  replace h1 := cf h1
  refine tc tbk 2 (.mk ?_)
  exact lf h1 () leA
  replace h1 := ct h1
  refine tc tbk 6 (.mk ?_)
  refine ni tbk h1 fun x34 h1 => ?_
  refine tr tbk 6 (.mk ?_)
  refine ni tbk h1 fun x35 h1 => ?_
  refine tr tbk 5 (.mk ?_)
  refine nb tbk h1 fun x36 h1 => ?_
  refine tr tbk 1 (.mk ?_)
  cases x36
  replace h1 := cf h1
  refine tc tbk 3 (.mk ?_)
  exact bk (x34, x35) () h1 leA
  replace h1 := ct h1
  refine tc tbk 2 (.mk ?_)
  exact lf h1 () leA
  rintro y2_1 _ h0
  refine tc tbk 3 (.mk ?_)
  refine ni tbk h0 fun x37 h0 => ?_
  refine tr tbk 1 (.mk ?_)
  refine ni tbk h0 fun x38 h0 => ?_
  refine tr tbk 2 (.mk ?_)
  refine ni tbk h0 fun x39 h0 => ?_
  refine ni tbk h0 fun x40 h0 => ?_
  refine tr tbk 6 (.mk ?_)
  obtain ⟨p41, h0⟩ := asrt_e h0
  obtain ⟨x42, e42, h0⟩ := bnd_e h0
  refine rst rfl rfl rfl (yv_quo rfl rfl rfl p41 e42) ?_
  refine tr tbk 7 (.mk ?_)
  refine ni tbk h0 fun x43 h0 => ?_
  refine ni tbk h0 fun x44 h0 => ?_
  refine tr tbk 3 (.mk ?_)
  refine jn h0 [2, 6, 7, 8, 14, 15, 17] [] (fun (a : Int) (k : Unit) => [(18, .sc (.int .u64 a))]) (fun a k => []) ⟨fun j45 h1 => ?_, ?_⟩
  refine tc tbk 1 (.mk ?_)
  refine lp (fun n (a : Int × Int) => d_math_bits_Div64_L1 x11 x12 x22 n a.1 a.2) ((x44 : Int), (x42 : Int)) () h1 [2, 6, 7, 8, 9, 10, 14, 15, 17] [] (fun (a : Int × Int) (k : Unit) => [(16, .sc (.int .u64 a.1)), (18, .sc (.int .u64 a.2))]) (fun a k => []) (fun _ => rfl) ⟨leA, ?_⟩
  rintro n ⟨y3_1, y3_2⟩ _ hm h1
  replace h1 : d_math_bits_Div64_L1 x11 x12 x22 (n + 1) y3_1 y3_2 = some _ := h1
  rw [d_math_bits_Div64_L1] at h1
  refine tc tbk 2 (.mk ?_)
  refine jn h1 [2, 6, 7, 8, 9, 10, 14, 15, 16, 17, 18] [] (fun (a : Bool) (k : Unit) => [(113, boo a)]) (fun a k => []) ⟨fun j46 h2 => ?_, ?_⟩
  refine tc tbk 2 (.mk ?_)
  refine nb tbk h2 fun x47 h2 => ?_
  refine tr tbk 1 (.mk ?_)
  cases x47
  replace h2 := cf h2
  refine tr tbk 2 (.mk ?_)
  refine ni tbk h2 fun x48 h2 => ?_
  refine tr tbk 1 (.mk ?_)
  refine ni tbk h2 fun x49 h2 => ?_
  refine tr tbk 1 (.mk ?_)
  refine ni tbk h2 fun x50 h2 => ?_
  refine nb tbk h2 fun x51 h2 => ?_
  refine tr tbk 2 (.mk ?_)
  exact lf h2 () leA
  replace h2 := ct h2
  refine tr tbk 10 (.mk ?_)
  exact lf h2 () leA
  rintro y4_1 _ h1
  cases y4_1
  replace h1 := cf h1
  refine tc tbk 2 (.mk ?_)
  exact lf h1 () leA
  replace h1 := ct h1
  refine tc tbk 6 (.mk ?_)
  refine ni tbk h1 fun x52 h1 => ?_
  refine tr tbk 6 (.mk ?_)
  refine ni tbk h1 fun x53 h1 => ?_
  refine tr tbk 5 (.mk ?_)
  refine nb tbk h1 fun x54 h1 => ?_
  refine tr tbk 1 (.mk ?_)
  cases x54
  replace h1 := cf h1
  refine tc tbk 3 (.mk ?_)
  exact bk (x53, x52) () h1 leA
  replace h1 := ct h1
  refine tc tbk 2 (.mk ?_)
  exact lf h1 () leA
  rintro y5_1 _ h0
  refine tc tbk 3 (.mk ?_)
  refine ni tbk h0 fun x55 h0 => ?_
  refine tr tbk 1 (.mk ?_)
  refine ni tbk h0 fun x56 h0 => ?_
  refine tr tbk 1 (.mk ?_)
  refine ni tbk h0 fun x57 h0 => ?_
  refine tr tbk 1 (.mk ?_)
  refine ni tbk h0 fun x58 h0 => ?_
  refine tr tbk 2 (.mk ?_)
  refine ni tbk h0 fun x59 h0 => ?_
  refine ni tbk h0 fun x60 h0 => ?_
  refine tr tbk 1 (.mk ?_)
  obtain ⟨p61, h0⟩ := asrt_e h0
  obtain ⟨x62, e62, h0⟩ := bnd_e h0
  refine rst rfl rfl rfl (yv_shr rfl rfl rfl p61 e62) ?_
  refine tr tbk 3 (.mk ?_)
  obtain rfl := nxt_e h0
  refine w_ret (hret _ _ _ (.tmp rfl (.tmp rfl .nil)) (fun _ _ h => h) ?_)
  exact .refl _
  replace h0 := ct h0
  refine tc tbk 2 (.mk ?_)
  refine c_drawE [0, 0, 3, 0, 0, 24, 7, 127] (fun i => []) (fun i => []) (fun i => true) [0, 1, 2, 3, 4, 5, 6, 7] mixed (by kernel_rfl) ?_; intro K hK
  iterate 2 refine eM ?_
  obtain ⟨p63, h0⟩ := asrt_e h0
  obtain ⟨x64, e64, h0⟩ := bnd_e h0
  refine eP (fun H hH => yv_quo rfl rfl rfl p63 e64) ?_
  iterate 2 refine eM ?_
  obtain ⟨p65, h0⟩ := asrt_e h0
  obtain ⟨x66, e66, h0⟩ := bnd_e h0
  refine eP (fun H hH => yv_rem rfl rfl rfl p65 e66) ?_
  iterate 2 refine eA ?_
  refine de_nil (hK _ ?_)
  obtain rfl := nxt_e h0
  refine w_ret (hret _ _ _ (.tmp rfl (.tmp rfl .nil)) (fun _ _ h => h) ?_)
  exact .refl _
  replace h0 := ct h0
  refine tc tbk 1 (.mk ?_)
  cases h0
  replace h0 := ct h0
  refine tc tbk 1 (.mk ?_)
  cases h0
def d_money_MulDiv (n : Nat) (a1 : Int) (a2 : Int) (a3 : Int) : Option (Int × Int × Int) :=
(show Option (Bool) from
bnd (decide (a1 < 0)) fun x5 =>
cond x5 (some (true : Bool)) (bnd (decide (a2 < 0)) fun x6 =>
cond x6 (some (true : Bool)) (bnd (decide (a3 < 1)) fun x7 =>
some (x7 : Bool)))).bind <| fun y0_1 =>
cond y0_1 (some ((0 : Int), (0 : Int), (1 : Int))) ((d_money_Wide a1 a2).bind fun x8 =>
bnd (wu64 a3) fun x9 =>
bnd (decide (x8.1 ≥ x9)) fun x10 =>
cond x10 (some ((0 : Int), (0 : Int), (2 : Int))) (bnd (wu64 a3) fun x11 =>
(d_math_bits_Div64 n x8.1 x8.2 x11).bind fun x12 =>
bnd (decide (x12.1 > 288230376151711744)) fun x13 =>
cond x13 (some ((0 : Int), (0 : Int), (2 : Int))) (bnd (w64 x12.1) fun x14 =>
bnd (w64 x12.2) fun x15 =>
some ((x14 : Int), (x15 : Int), (0 : Int)))))
theorem d_money_MulDiv_c {n : Nat} {a1 : Int} {a2 : Int} {a3 : Int} {r : Int × Int × Int} (h0 : d_money_MulDiv n a1 a2 a3 = some r) : PP Tryz.prog 133 [int a1, int a2, int a3] (fun y => y = .tup [int r.1, int r.2.1, int r.2.2]) := by
  unfold d_money_MulDiv at h0
  refine pp_of_pc (R0 := fun y H => Cv (frzH H) y (.tup [int r.1, int r.2.1, int r.2.2])) ?_ (fun y H hc => ⟨_, rfl, .tup (pvl3 (pvI (r.1)) (pvI (r.2.1)) (pvI (r.2.2))), hc⟩)
  refine pcw (c := _) Tryz.func133 rfl rfl ?_; intro Q hret hnorm
  refine tc tbk 8 (.mk ?_)
  refine jn h0 [0, 1, 2, 6, 7, 8] [] (fun (a : Bool) (k : Unit) => [(22, boo a)]) (fun a k => []) ⟨fun j4 h1 => ?_, ?_⟩
  refine tc tbk 2 (.mk ?_)
  refine nb tbk h1 fun x5 h1 => ?_
  refine tr tbk 1 (.mk ?_)
  cases x5
  replace h1 := cf h1
  refine tr tbk 1 (.mk ?_)
  refine nb tbk h1 fun x6 h1 => ?_
  refine tr tbk 2 (.mk ?_)
  cases x6
  replace h1 := cf h1
  refine tr tbk 1 (.mk ?_)
  refine nb tbk h1 fun x7 h1 => ?_
  refine tr tbk 2 (.mk ?_)
  exact lf h1 () leA
  replace h1 := ct h1
  refine tr tbk 4 (.mk ?_)
  exact lf h1 () leA
  replace h1 := ct h1
  refine tr tbk 8 (.mk ?_)
  exact lf h1 () leA
  rintro y0_1 _ h0
  cases y0_1
  replace h0 := cf h0
  refine tc tbk 6 (.mk ?_)
  obtain ⟨x8, e8, h0⟩ := bind_e h0
  refine rst rfl rfl rfl (yv_callP rfl rfl (.cons rfl (.cons rfl .nil)) cal154 (CvL.refl _) (d_money_Wide_c e8)) ?_
  refine tr tbk 11 (.mk ?_)
  refine ni tbk h0 fun x9 h0 => ?_
  refine nb tbk h0 fun x10 h0 => ?_
  refine tr tbk 1 (.mk ?_)
  cases x10
  replace h0 := cf h0
  refine tc tbk 7 (.mk ?_)
  refine ni tbk h0 fun x11 h0 => ?_
  obtain ⟨x12, e12, h0⟩ := bind_e h0
  refine rst rfl rfl rfl (yv_callP rfl rfl (.cons rfl (.cons rfl (.cons rfl .nil))) cal155 (CvL.refl _) (d_math_bits_Div64_c e12)) ?_
  refine tr tbk 10 (.mk ?_)
  refine nb tbk h0 fun x13 h0 => ?_
  refine tr tbk 1 (.mk ?_)
  cases x13
  replace h0 := cf h0
  refine tc tbk 5 (.mk ?_)
  refine ni tbk h0 fun x14 h0 => ?_
  refine tr tbk 1 (.mk ?_)
  refine ni tbk h0 fun x15 h0 => ?_
  refine tr tbk 4 (.mk ?_)
  obtain rfl := nxt_e h0
  refine w_ret (hret _ _ _ (.tmp rfl (.tmp rfl (.tmp rfl .nil))) (fun _ _ h => h) ?_)
  exact .refl _
  replace h0 := ct h0
  refine tc tbk 7 (.mk ?_)
  obtain rfl := nxt_e h0
  refine w_ret (hret _ _ _ (.tmp rfl (.tmp rfl (.tmp rfl .nil))) (fun _ _ h => h) ?_)
  exact .refl _
  replace h0 := ct h0
  refine tc tbk 7 (.mk ?_)
  obtain rfl := nxt_e h0
  refine w_ret (hret _ _ _ (.tmp rfl (.tmp rfl (.tmp rfl .nil))) (fun _ _ h => h) ?_)
  exact .refl _
  replace h0 := ct h0
  refine tc tbk 7 (.mk ?_)
  obtain rfl := nxt_e h0
  refine w_ret (hret _ _ _ (.tmp rfl (.tmp rfl (.tmp rfl .nil))) (fun _ _ h => h) ?_)
  exact .refl _
def d_money_Part (n : Nat) (a1 : Int) (a2 : Int) (a3 : Int) : Option (Int) :=
(show Option (Bool) from
bnd (decide (a3 < 1)) fun x5 =>
cond x5 (some (true : Bool)) (bnd (decide (a2 < 0)) fun x6 =>
cond x6 (some (true : Bool)) (bnd (decide (a2 > a3)) fun x7 =>
cond x7 (some (true : Bool)) ((d_money_in a1).bind fun x8 =>
bnd (!x8) fun x9 =>
some (x9 : Bool))))).bind <| fun y0_1 =>
cond y0_1 (some ((0 : Int))) (bnd (decide (a2 = a3)) fun x10 =>
cond x10 (some ((a1 : Int))) (bnd (decide (a1 < 0)) fun x11 =>
cond x11 (bnd (w64 (0 - a1)) fun x13 =>
(d_money_MulDiv n x13 a2 a3).bind fun x14 =>
bnd (w64 (0 - x14.1)) fun x15 =>
some ((x15 : Int))) ((d_money_MulDiv n a1 a2 a3).bind fun x12 =>
some ((x12.1 : Int)))))
theorem d_money_Part_c {n : Nat} {a1 : Int} {a2 : Int} {a3 : Int} {r : Int} (h0 : d_money_Part n a1 a2 a3 = some r) : PP Tryz.prog 91 [int a1, int a2, int a3] (fun y => y = int r) := by
  unfold d_money_Part at h0
  refine pp_of_pc (R0 := fun y H => Cv (frzH H) y (int r)) ?_ (fun y H hc => ⟨_, rfl, pvI r, hc⟩)
  refine pcw (c := _) Tryz.func91 rfl rfl ?_; intro Q hret hnorm
  refine tc tbk 7 (.mk ?_)
  refine jn h0 [0, 1, 2, 6] [] (fun (a : Bool) (k : Unit) => [(13, boo a)]) (fun a k => []) ⟨fun j4 h1 => ?_, ?_⟩
  refine tc tbk 2 (.mk ?_)
  refine nb tbk h1 fun x5 h1 => ?_
  refine tr tbk 1 (.mk ?_)
  cases x5
  replace h1 := cf h1
  refine tr tbk 1 (.mk ?_)
  refine nb tbk h1 fun x6 h1 => ?_
  refine tr tbk 2 (.mk ?_)
  cases x6
  replace h1 := cf h1
  refine tr tbk 2 (.mk ?_)
  refine nb tbk h1 fun x7 h1 => ?_
  refine tr tbk 2 (.mk ?_)
  cases x7
  replace h1 := cf h1
  refine tr tbk 1 (.mk ?_)
  obtain ⟨x8, e8, h1⟩ := bind_e h1
  refine rst rfl rfl rfl (yv_callP rfl rfl (.cons rfl .nil) cal129 (CvL.refl _) (d_money_in_c e8)) ?_
  refine nb tbk h1 fun x9 h1 => ?_
  refine tr tbk 3 (.mk ?_)
  exact lf h1 () leA
  replace h1 := ct h1
  refine tr tbk 6 (.mk ?_)
  exact lf h1 () leA
  replace h1 := ct h1
  refine tr tbk 11 (.mk ?_)
  exact lf h1 () leA
  replace h1 := ct h1
  refine tr tbk 15 (.mk ?_)
  exact lf h1 () leA
  rintro y0_1 _ h0
  cases y0_1
  replace h0 := cf h0
  refine tc tbk 5 (.mk ?_)
  refine nb tbk h0 fun x10 h0 => ?_
  refine tr tbk 2 (.mk ?_)
  cases x10
  replace h0 := cf h0
  refine tc tbk 4 (.mk ?_)
  refine nb tbk h0 fun x11 h0 => ?_
  refine tr tbk 2 (.mk ?_)
  cases x11
  replace h0 := cf h0
  refine tc tbk 8 (.mk ?_)
  obtain ⟨x12, e12, h0⟩ := bind_e h0
  refine rst rfl rfl rfl (yv_callP rfl rfl (.cons rfl (.cons rfl (.cons rfl .nil))) cal133 (CvL.refl _) (d_money_MulDiv_c e12)) ?_
  refine tr tbk 13 (.mk ?_)
  obtain rfl := nxt_e h0
  refine w_ret (hret _ _ _ (.tmp rfl .nil) (fun _ _ h => h) ?_)
  exact .refl _
  replace h0 := ct h0
  refine tc tbk 4 (.mk ?_)
  refine ni tbk h0 fun x13 h0 => ?_
  refine tr tbk 2 (.mk ?_)
  obtain ⟨x14, e14, h0⟩ := bind_e h0
  refine rst rfl rfl rfl (yv_callP rfl rfl (.cons rfl (.cons rfl (.cons rfl .nil))) cal133 (CvL.refl _) (d_money_MulDiv_c e14)) ?_
  refine tr tbk 11 (.mk ?_)
  refine ni tbk h0 fun x15 h0 => ?_
  refine tr tbk 2 (.mk ?_)
  obtain rfl := nxt_e h0
  refine w_ret (hret _ _ _ (.tmp rfl .nil) (fun _ _ h => h) ?_)
  exact .refl _
  replace h0 := ct h0
  refine tc tbk 6 (.mk ?_)
  obtain rfl := nxt_e h0
  refine w_ret (hret _ _ _ (.tmp rfl .nil) (fun _ _ h => h) ?_)
  exact .refl _
  replace h0 := ct h0
  refine tc tbk 5 (.mk ?_)
  obtain rfl := nxt_e h0
  refine w_ret (hret _ _ _ (.tmp rfl .nil) (fun _ _ h => h) ?_)
  exact .refl _
def d_match_due_open (n : Nat) (a1 : GReceipt) (a2 : Int) : Option (Int) :=
bnd (decide (a2 = a1.Open)) fun x4 =>
cond x4 (some ((a1.Accrued : Int))) ((d_money_Part n a1.Accrued a2 a1.Open).bind fun x5 =>
some ((x5 : Int)))
theorem d_match_due_open_c {n : Nat} {a1 : GReceipt} {a2 : Int} {r : Int} (h0 : d_match_due_open n a1 a2 = some r) : PP Tryz.prog 52 [.agg (GReceipt.av a1), int a2] (fun y => y = int r) := by
  unfold d_match_due_open at h0
  refine pp_of_pc (R0 := fun y H => Cv (frzH H) y (int r)) ?_ (fun y H hc => ⟨_, rfl, pvI r, hc⟩)
  refine pcw (c := _) Tryz.func52 rfl rfl ?_; intro Q hret hnorm
  refine tc tbk 2 (.mk ?_)
  refine rse rfl rfl rfl (yl_box 1 .any rfl rfl rfl) ?_; rintro _ _ ⟨v3, -, rfl, rfl⟩
  refine tr tbk 8 (.mk ?_)
  refine nb tbk h0 fun x4 h0 => ?_
  refine tr tbk 1 (.mk ?_)
  cases x4
  replace h0 := cf h0
  refine tc tbk 9 (.mk ?_)
  obtain ⟨x5, e5, h0⟩ := bind_e h0
  refine rst rfl rfl rfl (yv_callP rfl rfl (.cons rfl (.cons rfl (.cons rfl .nil))) cal91 (CvL.refl _) (d_money_Part_c e5)) ?_
  refine tr tbk 2 (.mk ?_)
  obtain rfl := nxt_e h0
  refine w_ret (hret _ _ _ (.tmp rfl .nil) (fun _ _ h => h) ?_)
  exact .refl _
  replace h0 := ct h0
  refine tc tbk 7 (.mk ?_)
  obtain rfl := nxt_e h0
  refine w_ret (hret _ _ _ (.tmp rfl .nil) (fun _ _ h => h) ?_)
  exact .refl _
def d_match_Due (n : Nat) (a1 : GReceipt) (a2 : Int) : Option (Int) :=
(d_match_due_open n a1 a2).bind fun x4 =>
some ((x4 : Int))
theorem d_match_Due_c {n : Nat} {a1 : GReceipt} {a2 : Int} {r : Int} (h0 : d_match_Due n a1 a2 = some r) : PP Tryz.prog 22 [.agg (GReceipt.av a1), int a2] (fun y => y = int r) := by
  unfold d_match_Due at h0
  refine pp_of_pc (R0 := fun y H => Cv (frzH H) y (int r)) ?_ (fun y H hc => ⟨_, rfl, pvI r, hc⟩)
  refine pcw (c := _) Tryz.func22 rfl rfl ?_; intro Q hret hnorm
  refine tc tbk 2 (.mk ?_)
  refine rse rfl rfl rfl (yl_box 1 .any rfl rfl rfl) ?_; rintro _ _ ⟨v3, -, rfl, rfl⟩
  refine tr tbk 12 (.mk ?_)
  obtain ⟨x4, e4, h0⟩ := bind_e h0
  refine rst rfl rfl rfl (yv_callP rfl rfl (.cons rfl .nil) cal52 (CvL.refl _) (d_match_due_open_c e4)) ?_
  refine tr tbk 2 (.mk ?_)
  obtain rfl := nxt_e h0
  refine w_ret (hret _ _ _ (.tmp rfl .nil) (fun _ _ h => h) ?_)
  exact .refl _
def d_match_line (a1 : Int) (a2 : Int) : Option (GLine) :=
some (((⟨a1, a2⟩ : GLine) : GLine))
theorem d_match_line_c {a1 : Int} {a2 : Int} {r : GLine} (h0 : d_match_line a1 a2 = some r) : PP Tryz.prog 94 [int a1, int a2] (fun y => y = .agg (GLine.av r)) := by
  unfold d_match_line at h0
  refine pp_of_pc (R0 := fun y H => Cv (frzH H) y (.agg (GLine.av r))) ?_ (fun y H hc => ⟨_, rfl, (fun (a : GLine) => PV.agg (GLine.pvc a)) r, hc⟩)
  refine pcw (c := _) Tryz.func94 rfl rfl ?_; intro Q hret hnorm
  refine tc tbk 2 (.mk ?_)
  refine rse rfl rfl rfl (yl_alloc 1 .any rfl z78 rfl) ?_; rintro _ _ ⟨v3, -, rfl, rfl⟩
  refine tr tbk 6 (.mk ?_)
  refine sS ⟨78, 2, true, true, v3, [[int a1, int a2]]⟩ sh78 ?_
  refine tr tbk 1 (.mk ?_)
  obtain rfl := nxt_e h0
  refine w_ret (hret _ _ _ (.cell rfl (.pt rfl rfl rfl) sh78 rfl .nil) (fun _ _ h => h) ?_)
  exact .refl _
def d_voucher_is (a1 : Int) : Option (Bool) :=
(show Option (Bool) from
bnd (decide (a1 ≥ 0)) fun x3 =>
cond x3 (bnd (decide (a1 < 17)) fun x4 =>
some (x4 : Bool)) (some (false : Bool))).bind <| fun y0_1 =>
some ((y0_1 : Bool))
theorem d_voucher_is_c {a1 : Int} {r : Bool} (h0 : d_voucher_is a1 = some r) : PP Tryz.prog 119 [int a1] (fun y => y = boo r) := by
  unfold d_voucher_is at h0
  refine pp_of_pc (R0 := fun y H => Cv (frzH H) y (boo r)) ?_ (fun y H hc => ⟨_, rfl, pvB r, hc⟩)
  refine pcw (c := _) Tryz.func119 rfl rfl ?_; intro Q hret hnorm
  refine tc tbk 5 (.mk ?_)
  refine jn h0 [] [] (fun (a : Bool) (k : Unit) => [(2, boo a)]) (fun a k => []) ⟨fun j2 h1 => ?_, ?_⟩
  refine tc tbk 2 (.mk ?_)
  refine nb tbk h1 fun x3 h1 => ?_
  refine tr tbk 1 (.mk ?_)
  cases x3
  replace h1 := cf h1
  refine tr tbk 5 (.mk ?_)
  exact lf h1 () leA
  replace h1 := ct h1
  refine tr tbk 1 (.mk ?_)
  refine nb tbk h1 fun x4 h1 => ?_
  refine tr tbk 3 (.mk ?_)
  exact lf h1 () leA
  rintro y0_1 _ h0
  obtain rfl := nxt_e h0
  refine w_ret (hret _ _ _ (.tmp rfl .nil) (fun _ _ h => h) ?_)
  exact .refl _
def d_voucher_in (a1 : Int) : Option (Bool) :=
(show Option (Bool) from
bnd (decide (a1 ≥ (-288230376151711744))) fun x3 =>
cond x3 (bnd (decide (a1 ≤ 288230376151711744)) fun x4 =>
some (x4 : Bool)) (some (false : Bool))).bind <| fun y0_1 =>
some ((y0_1 : Bool))
theorem d_voucher_in_c {a1 : Int} {r : Bool} (h0 : d_voucher_in a1 = some r) : PP Tryz.prog 120 [int a1] (fun y => y = boo r) := by
  unfold d_voucher_in at h0
  refine pp_of_pc (R0 := fun y H => Cv (frzH H) y (boo r)) ?_ (fun y H hc => ⟨_, rfl, pvB r, hc⟩)
  refine pcw (c := _) Tryz.func120 rfl rfl ?_; intro Q hret hnorm
  refine tc tbk 5 (.mk ?_)
  refine jn h0 [] [] (fun (a : Bool) (k : Unit) => [(2, boo a)]) (fun a k => []) ⟨fun j2 h1 => ?_, ?_⟩
  refine tc tbk 2 (.mk ?_)
  refine nb tbk h1 fun x3 h1 => ?_
  refine tr tbk 1 (.mk ?_)
  cases x3
  replace h1 := cf h1
  refine tr tbk 5 (.mk ?_)
  exact lf h1 () leA
  replace h1 := ct h1
  refine tr tbk 1 (.mk ?_)
  refine nb tbk h1 fun x4 h1 => ?_
  refine tr tbk 3 (.mk ?_)
  exact lf h1 () leA
  rintro y0_1 _ h0
  obtain rfl := nxt_e h0
  refine w_ret (hret _ _ _ (.tmp rfl .nil) (fun _ _ h => h) ?_)
  exact .refl _
def d_voucher_Plain_1 (a1 : GLine) : Option (Bool) :=
(show Option (Bool) from
(d_voucher_is a1.Account).bind fun x4 =>
bnd (!x4) fun x5 =>
cond x5 (some (true : Bool)) ((d_voucher_in a1.Amount).bind fun x6 =>
bnd (!x6) fun x7 =>
some (x7 : Bool))).bind <| fun y0_1 =>
some ((y0_1 : Bool))
theorem d_voucher_Plain_1_c {a1 : GLine} {r : Bool} (h0 : d_voucher_Plain_1 a1 = some r) : PP Tryz.prog 118 [.agg (GLine.av a1)] (fun y => y = boo r) := by
  unfold d_voucher_Plain_1 at h0
  refine pp_of_pc (R0 := fun y H => Cv (frzH H) y (boo r)) ?_ (fun y H hc => ⟨_, rfl, pvB r, hc⟩)
  refine pcw (c := _) Tryz.func118 rfl rfl ?_; intro Q hret hnorm
  refine tc tbk 2 (.mk ?_)
  refine rse rfl rfl rfl (yl_box 1 .any rfl rfl rfl) ?_; rintro _ _ ⟨v2, -, rfl, rfl⟩
  refine tr tbk 3 (.mk ?_)
  refine jn h0 [] [] (fun (a : Bool) (k : Unit) => [(2, boo a)]) (fun a k => []) ⟨fun j3 h1 => ?_, ?_⟩
  refine tc tbk 3 (.mk ?_)
  obtain ⟨x4, e4, h1⟩ := bind_e h1
  refine rst rfl rfl rfl (yv_callP rfl rfl (.cons rfl .nil) cal119 (CvL.refl _) (d_voucher_is_c e4)) ?_
  refine nb tbk h1 fun x5 h1 => ?_
  refine tr tbk 1 (.mk ?_)
  cases x5
  replace h1 := cf h1
  refine tr tbk 2 (.mk ?_)
  obtain ⟨x6, e6, h1⟩ := bind_e h1
  refine rst rfl rfl rfl (yv_callP rfl rfl (.cons rfl .nil) cal120 (CvL.refl _) (d_voucher_in_c e6)) ?_
  refine nb tbk h1 fun x7 h1 => ?_
  refine tr tbk 3 (.mk ?_)
  exact lf h1 () leA
  replace h1 := ct h1
  refine tr tbk 7 (.mk ?_)
  exact lf h1 () leA
  rintro y0_1 _ h0
  obtain rfl := nxt_e h0
  refine w_ret (hret _ _ _ (.tmp rfl .nil) (fun _ _ h => h) ?_)
  exact .refl _
def d_voucher_Plain_2 (a1 : GLine) : Option (Int) :=
some ((a1.Account : Int))
theorem d_voucher_Plain_2_c {a1 : GLine} {r : Int} (h0 : d_voucher_Plain_2 a1 = some r) : PP Tryz.prog 123 [.agg (GLine.av a1)] (fun y => y = int r) := by
  unfold d_voucher_Plain_2 at h0
  refine pp_of_pc (R0 := fun y H => Cv (frzH H) y (int r)) ?_ (fun y H hc => ⟨_, rfl, pvI r, hc⟩)
  refine pcw (c := _) Tryz.func123 rfl rfl ?_; intro Q hret hnorm
  refine tc tbk 2 (.mk ?_)
  refine rse rfl rfl rfl (yl_box 1 .any rfl rfl rfl) ?_; rintro _ _ ⟨v2, -, rfl, rfl⟩
  refine tr tbk 8 (.mk ?_)
  obtain rfl := nxt_e h0
  refine w_ret (hret _ _ _ (.tmp rfl .nil) (fun _ _ h => h) ?_)
  exact .refl _
def d_cmp_isNaN_int (a1 : Int) : Option (Bool) :=
bnd (decide (a1 ≠ a1)) fun x2 =>
some ((x2 : Bool))
theorem d_cmp_isNaN_int_c {a1 : Int} {r : Bool} (h0 : d_cmp_isNaN_int a1 = some r) : PP Tryz.prog 161 [int a1] (fun y => y = boo r) := by
  unfold d_cmp_isNaN_int at h0
  refine pp_of_pc (R0 := fun y H => Cv (frzH H) y (boo r)) ?_ (fun y H hc => ⟨_, rfl, pvB r, hc⟩)
  refine pcw (c := _) Tryz.func161 rfl rfl ?_; intro Q hret hnorm
  refine tc tbk 8 (.mk ?_)
  refine nb tbk h0 fun x2 h0 => ?_
  refine tr tbk 2 (.mk ?_)
  obtain rfl := nxt_e h0
  refine w_ret (hret _ _ _ (.tmp rfl .nil) (fun _ _ h => h) ?_)
  exact .refl _
def d_cmp_Compare_int (a1 : Int) (a2 : Int) : Option (Int) :=
(d_cmp_isNaN_int a1).bind fun x3 =>
(d_cmp_isNaN_int a2).bind fun x4 =>
cond x3 (cond x4 (some ((0 : Int))) (some (((-1) : Int)))) (cond x4 (some ((1 : Int))) (bnd (decide (a1 < a2)) fun x5 =>
cond x5 (some (((-1) : Int))) (bnd (decide (a1 > a2)) fun x6 =>
cond x6 (some ((1 : Int))) (some ((0 : Int))))))
theorem d_cmp_Compare_int_c {a1 : Int} {a2 : Int} {r : Int} (h0 : d_cmp_Compare_int a1 a2 = some r) : PP Tryz.prog 149 [int a1, int a2] (fun y => y = int r) := by
  unfold d_cmp_Compare_int at h0
  refine pp_of_pc (R0 := fun y H => Cv (frzH H) y (int r)) ?_ (fun y H hc => ⟨_, rfl, pvI r, hc⟩)
  refine pcw (c := _) Tryz.func149 rfl rfl ?_; intro Q hret hnorm
  refine tc tbk 7 (.mk ?_)
  obtain ⟨x3, e3, h0⟩ := bind_e h0
  refine rst rfl rfl rfl (yv_callP rfl rfl (.cons rfl .nil) cal161 (CvL.refl _) (d_cmp_isNaN_int_c e3)) ?_
  refine tr tbk 5 (.mk ?_)
  obtain ⟨x4, e4, h0⟩ := bind_e h0
  refine rst rfl rfl rfl (yv_callP rfl rfl (.cons rfl .nil) cal161 (CvL.refl _) (d_cmp_isNaN_int_c e4)) ?_
  refine tr tbk 7 (.mk ?_)
  cases x3
  replace h0 := cf h0
  refine tc tbk 7 (.mk ?_)
  cases x4
  replace h0 := cf h0
  refine tc tbk 7 (.mk ?_)
  refine nb tbk h0 fun x5 h0 => ?_
  refine tr tbk 1 (.mk ?_)
  cases x5
  replace h0 := cf h0
  refine tc tbk 7 (.mk ?_)
  refine nb tbk h0 fun x6 h0 => ?_
  refine tr tbk 1 (.mk ?_)
  cases x6
  replace h0 := cf h0
  refine tc tbk 6 (.mk ?_)
  obtain rfl := nxt_e h0
  refine w_ret (hret _ _ _ (.tmp rfl .nil) (fun _ _ h => h) ?_)
  exact .refl _
  replace h0 := ct h0
  refine tc tbk 5 (.mk ?_)
  obtain rfl := nxt_e h0
  refine w_ret (hret _ _ _ (.tmp rfl .nil) (fun _ _ h => h) ?_)
  exact .refl _
  replace h0 := ct h0
  refine tc tbk 5 (.mk ?_)
  obtain rfl := nxt_e h0
  refine w_ret (hret _ _ _ (.tmp rfl .nil) (fun _ _ h => h) ?_)
  exact .refl _
  replace h0 := ct h0
  refine tc tbk 5 (.mk ?_)
  obtain rfl := nxt_e h0
  refine w_ret (hret _ _ _ (.tmp rfl .nil) (fun _ _ h => h) ?_)
  exact .refl _
  replace h0 := ct h0
  refine tc tbk 6 (.mk ?_)
  cases x4
  replace h0 := cf h0
  refine tc tbk 6 (.mk ?_)
  obtain rfl := nxt_e h0
  refine w_ret (hret _ _ _ (.tmp rfl .nil) (fun _ _ h => h) ?_)
  exact .refl _
  replace h0 := ct h0
  refine tc tbk 5 (.mk ?_)
  obtain rfl := nxt_e h0
  refine w_ret (hret _ _ _ (.tmp rfl .nil) (fun _ _ h => h) ?_)
  exact .refl _
def d_money_Add (a1 : Int) (a2 : Int) : Option (Int × Int) :=
(show Option (Bool) from
(d_money_in a1).bind fun x4 =>
bnd (!x4) fun x5 =>
cond x5 (some (true : Bool)) ((d_money_in a2).bind fun x6 =>
bnd (!x6) fun x7 =>
cond x7 (some (true : Bool)) (bnd (w64 (a1 + a2)) fun x8 =>
(d_money_in x8).bind fun x9 =>
bnd (!x9) fun x10 =>
some (x10 : Bool)))).bind <| fun y0_1 =>
cond y0_1 (some ((0 : Int), (2 : Int))) (bnd (w64 (a1 + a2)) fun x11 =>
some ((x11 : Int), (0 : Int)))
theorem d_money_Add_c {a1 : Int} {a2 : Int} {r : Int × Int} (h0 : d_money_Add a1 a2 = some r) : PP Tryz.prog 82 [int a1, int a2] (fun y => y = .tup [int r.1, int r.2]) := by
  unfold d_money_Add at h0
  refine pp_of_pc (R0 := fun y H => Cv (frzH H) y (.tup [int r.1, int r.2])) ?_ (fun y H hc => ⟨_, rfl, .tup (pvl2 (pvI (r.1)) (pvI (r.2))), hc⟩)
  refine pcw (c := _) Tryz.func82 rfl rfl ?_; intro Q hret hnorm
  refine tc tbk 7 (.mk ?_)
  refine jn h0 [0, 1, 4, 5] [] (fun (a : Bool) (k : Unit) => [(20, boo a)]) (fun a k => []) ⟨fun j3 h1 => ?_, ?_⟩
  refine tc tbk 2 (.mk ?_)
  obtain ⟨x4, e4, h1⟩ := bind_e h1
  refine rst rfl rfl rfl (yv_callP rfl rfl (.cons rfl .nil) cal129 (CvL.refl _) (d_money_in_c e4)) ?_
  refine nb tbk h1 fun x5 h1 => ?_
  refine tr tbk 1 (.mk ?_)
  cases x5
  replace h1 := cf h1
  refine tr tbk 1 (.mk ?_)
  obtain ⟨x6, e6, h1⟩ := bind_e h1
  refine rst rfl rfl rfl (yv_callP rfl rfl (.cons rfl .nil) cal129 (CvL.refl _) (d_money_in_c e6)) ?_
  refine nb tbk h1 fun x7 h1 => ?_
  refine tr tbk 2 (.mk ?_)
  cases x7
  replace h1 := cf h1
  refine tr tbk 2 (.mk ?_)
  refine ni tbk h1 fun x8 h1 => ?_
  obtain ⟨x9, e9, h1⟩ := bind_e h1
  refine rst rfl rfl rfl (yv_callP rfl rfl (.cons rfl .nil) cal129 (CvL.refl _) (d_money_in_c e9)) ?_
  refine nb tbk h1 fun x10 h1 => ?_
  refine tr tbk 2 (.mk ?_)
  exact lf h1 () leA
  replace h1 := ct h1
  refine tr tbk 7 (.mk ?_)
  exact lf h1 () leA
  replace h1 := ct h1
  refine tr tbk 12 (.mk ?_)
  exact lf h1 () leA
  rintro y0_1 _ h0
  cases y0_1
  replace h0 := cf h0
  refine tc tbk 6 (.mk ?_)
  refine ni tbk h0 fun x11 h0 => ?_
  refine tr tbk 3 (.mk ?_)
  obtain rfl := nxt_e h0
  refine w_ret (hret _ _ _ (.tmp rfl (.tmp rfl .nil)) (fun _ _ h => h) ?_)
  exact .refl _
  replace h0 := ct h0
  refine tc tbk 6 (.mk ?_)
  obtain rfl := nxt_e h0
  refine w_ret (hret _ _ _ (.tmp rfl (.tmp rfl .nil)) (fun _ _ h => h) ?_)
  exact .refl _
def d_voucher_Plain_3 (a1 : GLine) : Option (Bool) :=
bnd (decide (a1.Amount = 0)) fun x3 =>
some ((x3 : Bool))
theorem d_voucher_Plain_3_c {a1 : GLine} {r : Bool} (h0 : d_voucher_Plain_3 a1 = some r) : PP Tryz.prog 125 [.agg (GLine.av a1)] (fun y => y = boo r) := by
  unfold d_voucher_Plain_3 at h0
  refine pp_of_pc (R0 := fun y H => Cv (frzH H) y (boo r)) ?_ (fun y H hc => ⟨_, rfl, pvB r, hc⟩)
  refine pcw (c := _) Tryz.func125 rfl rfl ?_; intro Q hret hnorm
  refine tc tbk 2 (.mk ?_)
  refine rse rfl rfl rfl (yl_box 1 .any rfl rfl rfl) ?_; rintro _ _ ⟨v2, -, rfl, rfl⟩
  refine tr tbk 6 (.mk ?_)
  refine nb tbk h0 fun x3 h0 => ?_
  refine tr tbk 2 (.mk ?_)
  obtain rfl := nxt_e h0
  refine w_ret (hret _ _ _ (.tmp rfl .nil) (fun _ _ h => h) ?_)
  exact .refl _
def d_voucher_Plain_L0 (a1 : List GLine) : Nat → Int → Option ((Unit) ⊕ ((Int)))
  | 0, _ => none
  | n + 1, y0_1 =>
    bnd (decide (y0_1 < (a1.length : Int))) fun x5 =>
    cond x5 ((ix a1 y0_1).bind fun x6 =>
    (d_voucher_Plain_1 x6).bind fun x7 =>
    cond x7 (esc (some (y0_1 : Int))) (bnd (w64 (y0_1 + 1)) fun x8 =>
    d_voucher_Plain_L0 a1 n (x8 : Int))) (brk ())
def d_voucher_Plain_L1 (a1 : List GLine) : Nat → Option (Unit)
  | 0 => none
  | n + 1 =>
    bnd (decide (20 ≤ (a1.length : Int))) fun x18 =>
    asrt (x18 = false) <|
    some ()
def d_voucher_Plain_L3 : Nat → Int → (List GLine) → Option ((List GLine))
  | 0, _, _ => none
  | n + 1, y7_1, y7_2 =>
    (show Option (Bool) from
    bnd (decide (y7_1 > 0)) fun x26 =>
    cond x26 ((ix y7_2 y7_1).bind fun x27 =>
    bnd (w64 (y7_1 - 1)) fun x28 =>
    (ix y7_2 x28).bind fun x29 =>
    (show Option ((Int)) from
    (d_voucher_Plain_2 x27).bind fun x33 =>
    (d_voucher_Plain_2 x29).bind fun x34 =>
    (d_cmp_Compare_int x33 x34).bind fun x35 =>
    some (x35 : Int)).bind <| fun y8_1 =>
    bnd (decide (y8_1 < 0)) fun x36 =>
    some (x36 : Bool)) (some (false : Bool))).bind <| fun y10_1 =>
    cond y10_1 (bnd (w64 (y7_1 - 1)) fun x37 =>
    bnd (w64 (y7_1 - 1)) fun x38 =>
    (ix y7_2 x38).bind fun x39 =>
    (ix y7_2 y7_1).bind fun x40 =>
    bnd (y7_2.set (Int.toNat y7_1) (x39 : GLine)) fun x41 =>
    (ix x41 x37).bind fun x42 =>
    bnd (x41.set (Int.toNat x37) (x40 : GLine)) fun x43 =>
    bnd (w64 (y7_1 - 1)) fun x44 =>
    d_voucher_Plain_L3 n (x44 : Int) (x43 : List GLine)) (some (y7_2 : List GLine))
def d_voucher_Plain_L2 (a1 : List GLine) : Nat → Int → (List GLine) → Option ((List GLine))
  | 0, _, _ => none
  | n + 1, y6_1, y6_2 =>
    bnd (decide (y6_1 < (a1.length : Int))) fun x22 =>
    cond x22 ((show Option ((List GLine)) from
    (show Option ((List GLine)) from
    d_voucher_Plain_L3 n (y6_1 : Int) (y6_2 : List GLine)).bind <| fun y11_1 =>
    some (y11_1 : List GLine)).bind <| fun y12_1 =>
    bnd (w64 (y6_1 + 1)) fun x45 =>
    d_voucher_Plain_L2 a1 n (x45 : Int) (y12_1 : List GLine)) (some (y6_2 : List GLine))
def d_voucher_Plain_L4 (a1 : List GLine) : Nat → Option (Unit)
  | 0 => none
  | n + 1 =>
    bnd (decide (20 < (a1.length : Int))) fun x48 =>
    asrt (x48 = false) <|
    some ()
def d_voucher_Plain_L5 (a1 : List GLine) (y19_1 : List GLine) : Nat → Int → (List GLine) → Option (((List GLine)) ⊕ ((List GLine) × Int))
  | 0, _, _ => none
  | n + 1, y20_2, y20_3 =>
    bnd (decide (y20_2 < (a1.length : Int))) fun x53 =>
    cond x53 ((show Option (((List GLine)) ⊕ (((List GLine)) ⊕ ((List GLine) × Int))) from
    (ix y19_1 y20_2).bind fun x55 =>
    bnd (w64 ((y20_3.length : Int) - 1)) fun x57 =>
    (show Option (Bool) from
    bnd (decide (x57 ≥ 0)) fun x59 =>
    cond x59 ((ix y20_3 x57).bind fun x60 =>
    bnd (decide (x60.Account = x55.Account)) fun x61 =>
    some (x61 : Bool)) (some (false : Bool))).bind <| fun y21_1 =>
    cond y21_1 ((ix y20_3 x57).bind fun x65 =>
    (d_money_Add x65.Amount x55.Amount).bind fun x66 =>
    bnd (decide (x66.2 ≠ 0)) fun x67 =>
    cond x67 (esc (esc (some (([] : List GLine), (x66.2 : Int))))) (bnd (y20_3.set (Int.toNat x57) ((⟨x65.Account, x66.1⟩ : GLine) : GLine)) fun x68 =>
    brk (x68 : List GLine))) (bnd (y20_3 ++ ([x55] : List GLine)) fun x62 =>
    asrt (x62.length ≤ 68719476736) <|
    brk (x62 : List GLine))).bind <| sel <| fun y22_2 =>
    bnd (w64 (y20_2 + 1)) fun x71 =>
    d_voucher_Plain_L5 a1 y19_1 n (x71 : Int) (y22_2 : List GLine)) (brk (y20_3 : List GLine))
def d_voucher_Plain_L6 (y23_2 : List GLine) : Nat → Int → Option ((Unit) ⊕ ((Int)))
  | 0, _ => none
  | n + 1, y24_1 =>
    bnd (decide (y24_1 < (y23_2.length : Int))) fun x75 =>
    cond x75 ((ix y23_2 y24_1).bind fun x76 =>
    (d_voucher_Plain_3 x76).bind fun x77 =>
    cond x77 (esc (some (y24_1 : Int))) (bnd (w64 (y24_1 + 1)) fun x78 =>
    d_voucher_Plain_L6 y23_2 n (x78 : Int))) (brk ())
def d_voucher_Plain_L7 : Nat → Int → Int → (List GLine) → Option (Int × (List GLine))
  | 0, _, _, _ => none
  | n + 1, y27_1, y27_2, y27_3 =>
    bnd (decide (y27_2 < (y27_3.length : Int))) fun x83 =>
    cond x83 ((show Option (Int × (List GLine)) from
    (ix y27_3 y27_2).bind fun x85 =>
    (d_voucher_Plain_3 x85).bind fun x87 =>
    bnd (!x87) fun x88 =>
    cond x88 ((ix y27_3 y27_1).bind fun x89 =>
    bnd (y27_3.set (Int.toNat y27_1) (x85 : GLine)) fun x90 =>
    bnd (w64 (y27_1 + 1)) fun x91 =>
    some ((x91 : Int), (x90 : List GLine))) (some ((y27_1 : Int), (y27_3 : List GLine)))).bind <| p2 fun (y28_1 : Int) (y28_2 : List GLine) =>
    bnd (w64 (y27_2 + 1)) fun x92 =>
    d_voucher_Plain_L7 n (y28_1 : Int) (x92 : Int) (y28_2 : List GLine)) (some ((y27_1 : Int), (y27_3 : List GLine)))
def d_voucher_Plain (n : Nat) (a1 : List GLine) : Option ((List GLine) × Int) :=
(show Option ((Bool)) from
(show Option ((Int)) from
(show Option ((Unit) ⊕ ((Int))) from
d_voucher_Plain_L0 a1 n (0 : Int)).bind <| sel <| fun _ =>
some ((-1) : Int)).bind <| fun y2_1 =>
bnd (decide (y2_1 ≥ 0)) fun x10 =>
some (x10 : Bool)).bind <| fun y3_1 =>
cond y3_1 (some (([] : List GLine), (1 : Int))) (asrt (a1.length ≤ 68719476736) <|
(show Option (((List GLine))) from
(show Option (((List GLine))) from
(show Option (((List GLine))) from
(show Option (Unit) from
d_voucher_Plain_L1 a1 n).bind <| fun _ =>
(show Option (((List GLine))) from
(show Option ((List GLine)) from
d_voucher_Plain_L2 a1 n (1 : Int) (a1 : List GLine)).bind <| fun y13_1 =>
some (y13_1 : List GLine)).bind <| fun y14_1 =>
asrt (y14_1.length = a1.length) <|
(show Option (Unit) from
d_voucher_Plain_L4 a1 n).bind <| fun _ =>
some (y14_1 : List GLine)).bind <| fun y17_1 =>
some (y17_1 : List GLine)).bind <| fun y18_1 =>
some (y18_1 : List GLine)).bind <| fun y19_1 =>
asrt (y19_1.length = a1.length) <|
(show Option (((List GLine)) ⊕ ((List GLine) × Int)) from
d_voucher_Plain_L5 a1 y19_1 n (0 : Int) (([] : List GLine) : List GLine)).bind <| sel <| fun y23_2 =>
(show Option ((Nat × Nat × (List GLine))) from
(show Option ((Int)) from
(show Option ((Unit) ⊕ ((Int))) from
d_voucher_Plain_L6 y23_2 n (0 : Int)).bind <| sel <| fun _ =>
some ((-1) : Int)).bind <| fun y26_1 =>
bnd (decide (y26_1 = (-1))) fun x80 =>
cond x80 (some ((0 : Nat), (y23_2.length : Nat), (y23_2 : List GLine))) (bnd (w64 (y26_1 + 1)) fun x81 =>
(show Option (Int × (List GLine)) from
d_voucher_Plain_L7 n (y26_1 : Int) (x81 : Int) (y23_2 : List GLine)).bind <| p2 fun (y29_1 : Int) (y29_2 : List GLine) =>
asrt ((0 : Int) ≤ y29_1 ∧ y29_1 < (y29_2.length : Int)) <|
bnd (y29_2.take (0 + y29_1.toNat)) fun x94 =>
asrt ((0 : Int) ≤ y29_1 ∧ y29_1 ≤ (y29_2.length : Int)) <|
some (((0 + 0) : Nat), ((y29_1.toNat - 0) : Nat), (x94 : List GLine)))).bind <| p2 fun (y30_1 : Nat) (q0 : Nat × (List GLine)) => (p2 fun (y30_2 : Nat) (y30_3 : List GLine) =>
asrt (y30_1 + y30_2 ≤ y30_3.length) <|
some (((((y30_3).drop y30_1).take y30_2) : List GLine), (0 : Int))) q0)
theorem d_voucher_Plain_c {n : Nat} {a1 : List GLine} {r : (List GLine) × Int} (h0 : d_voucher_Plain n a1 = some r) : PP Tryz.prog 77 [lst 2 GLine.av a1] (fun y => y = .tup [lst 2 GLine.av r.1, int r.2]) := by
  unfold d_voucher_Plain at h0
  refine pp_of_pc (R0 := fun y H => Cv (frzH H) y (.tup [lst 2 GLine.av r.1, int r.2])) ?_ (fun y H hc => ⟨_, rfl, .tup (pvl2 ((pvLs GLine.pvc) (r.1)) (pvI (r.2))), hc⟩)
  refine pcw (c := _) Tryz.func77 rfl rfl ?_; intro Q hret hnorm
  refine tc tbk 9 (.mk ?_)
  obtain ⟨j2, h1, h0⟩ := bind_e h0
  refine rse (Out := fun y H' => (∃ (a : Bool) (k : Unit), a = j2 ∧ y = boo a ∧ H' = hk [])) rfl rfl rfl (yl_call rfl rfl (.cons rfl (.cons rfl .nil)) cal117 ?_) ?_
  refine pcw (c := _) Tryz.func117 rfl rfl ?_; intro Q hret hnorm
  refine tc tbk 8 (.mk ?_)
  obtain ⟨j3, h2, h1⟩ := bind_e h1
  refine rse (Out := fun y H' => (∃ (a : Int) (k : Unit), a = j3 ∧ y = int a ∧ H' = hk [])) rfl rfl rfl (yl_call rfl rfl (.cons rfl (.cons rfl .nil)) cal146 ?_) ?_
  refine pcw (c := _) Tryz.func146 rfl rfl ?_; intro Q hret hnorm
  refine tc tbk 8 (.mk ?_)
  refine rst rfl rfl rfl (yv_len_sl rfl Tryz.underlying79 rfl (lst_len _)) ?_
  refine tr tbk 2 (.mk ?_)
  refine jnE h2 [4] [] (fun (a : Unit) (k : Unit) => []) (fun a k => []) ⟨fun j4 h3 h2 => ?_, ?_⟩
  refine tc tbk 1 (.mk ?_)
  refine lp (fun n (a : Int) => d_voucher_Plain_L0 a1 n a) (0 : Int) () h3 [0, 1, 4, 7] [] (fun (a : Int) (k : Unit) => [(8, int a)]) (fun a k => []) (fun _ => rfl) ⟨leA, ?_⟩
  rintro n y0_1 _ hm h3
  replace h3 : d_voucher_Plain_L0 a1 (n + 1) y0_1 = some _ := h3
  rw [d_voucher_Plain_L0] at h3
  refine tc tbk 2 (.mk ?_)
  refine nb tbk h3 fun x5 h3 => ?_
  refine tr tbk 2 (.mk ?_)
  cases x5
  replace h3 := cf h3
  refine tc tbk 2 (.mk ?_)
  exact lfE h3 () leA
  replace h3 := ct h3
  refine tc tbk 14 (.mk ?_)
  obtain ⟨x6, e6, h3⟩ := bind_e h3
  refine rst rfl rfl rfl (yv_ixT rfl Tryz.underlying79 sh78 rfl rfl e6) ?_
  refine tr tbk 1 (.mk ?_)
  obtain ⟨x7, e7, h3⟩ := bind_e h3
  refine rst rfl rfl rfl (yv_callP rfl rfl (.cons rfl .nil) cal118 (CvL.refl _) (d_voucher_Plain_1_c e7)) ?_
  refine tr tbk 1 (.mk ?_)
  cases x7
  replace h3 := cf h3
  refine tc tbk 4 (.mk ?_)
  refine ni tbk h3 fun x8 h3 => ?_
  refine tr tbk 2 (.mk ?_)
  exact bk x8 () h3 leA
  replace h3 := ct h3
  refine tc tbk 6 (.mk ?_)
  obtain ⟨c9, hX, hj⟩ := esc_e h3; subst hj; replace h2 := hX.trans (sel_r h2)
  obtain rfl := nxt_e h2
  refine w_ret (hret _ _ (hk []) (.tmp rfl .nil) (fun _ _ h => nomatch h) ?_)
  exact ⟨y0_1, (), rfl, rfl, rfl⟩
  rintro _ _ h2
  refine tc tbk 4 (.mk ?_)
  obtain rfl := nxt_e h2
  refine w_ret (hret _ _ (hk []) (.tmp rfl .nil) (fun _ _ h => nomatch h) ?_)
  exact ⟨(-1), (), rfl, rfl, rfl⟩
  rintro y _ ⟨y2_1, _, rfl, hc, rfl⟩
  subst hc
  refine nb tbk h1 fun x10 h1 => ?_
  refine tr tbk 2 (.mk ?_)
  obtain rfl := nxt_e h1
  refine w_ret (hret _ _ (hk []) (.tmp rfl .nil) (fun _ _ h => nomatch h) ?_)
  exact ⟨x10, (), rfl, rfl, rfl⟩
  rintro y _ ⟨y3_1, _, rfl, hc, rfl⟩
  subst hc
  refine tr tbk 1 (.mk ?_)
  cases y3_1
  replace h0 := cf h0
  refine tc tbk 5 (.mk ?_)
  obtain ⟨p11, h0⟩ := asrt_e h0
  refine rse rfl rfl rfl (yl_call rfl rfl (.cons rfl .nil) cal121 (pc_cv (clone121_c (id := 1) (l := a1) rfl p11) (.cons (.refl _) .nil))) ?_; rintro _ _ ⟨v12, rfl, rfl⟩
  refine tr tbk 5 (.mk ?_)
  obtain ⟨j13, h1, h0⟩ := bind_e h0
  refine rse (Out := fun y H' => (∃ (a : (List GLine)) (k : Unit), a = j13 ∧ y = .tup [] ∧ H' = hk [(1, ⟨78, 2, true, true, v12, a.map GLine.av⟩)])) rfl rfl rfl (yl_call rfl rfl (.cons rfl (.cons rfl .nil)) cal122 ?_) ?_
  refine pcw (c := _) Tryz.func122 rfl rfl ?_; intro Q hret hnorm
  refine tc tbk 2 (.mk ?_)
  refine rse rfl rfl rfl (yl_box 2 .any rfl rfl rfl) ?_; rintro _ _ ⟨v14, -, rfl, rfl⟩
  refine tr tbk 4 (.mk ?_)
  obtain ⟨j15, h2, h1⟩ := bind_e h1
  refine rse (Out := fun y H' => (∃ (a : (List GLine)) (k : Unit), a = j15 ∧ y = .tup [] ∧ H' = hk [(1, ⟨78, 2, true, true, v12, a.map GLine.av⟩), (2, ⟨159, 1, true, true, v14, [[.fn (.func 123) [] []]]⟩)])) rfl rfl rfl (yl_call rfl rfl (.cons rfl (.cons rfl .nil)) cal147 ?_) ?_
  refine pcw (c := _) Tryz.func147 rfl rfl ?_; intro Q hret hnorm
  refine tc tbk 3 (.mk ?_)
  refine rst rfl rfl rfl (yv_len_sl rfl Tryz.underlying79 rfl (.sl rfl rfl)) ?_
  refine tr tbk 1 (.mk ?_)
  obtain ⟨j16, h3, h2⟩ := bind_e h2
  refine rse (Out := fun y H' => (∃ (a : (List GLine)) (k : Unit), a = j16 ∧ y = .tup [] ∧ H' = hk [(1, ⟨78, 2, true, true, v12, a.map GLine.av⟩), (2, ⟨159, 1, true, true, v14, [[.fn (.func 123) [] []]]⟩)])) rfl rfl rfl (yl_call rfl rfl (.cons rfl (.cons rfl (.cons rfl .nil))) cal160 ?_) ?_
  refine pcw (c := _) Tryz.func160 rfl rfl ?_; intro Q hret hnorm
  refine tc tbk 11 (.mk ?_)
  refine jn h3 [0, 1, 2, 6, 7] [1, 2] (fun (a : Unit) (k : Unit) => []) (fun a k => []) ⟨fun j17 h4 => ?_, ?_⟩
  refine tc tbk 1 (.mk ?_)
  refine lp (fun n (a : Unit) => d_voucher_Plain_L1 a1 n) () () h4 [0, 1, 2, 6, 7, 8] [1, 2] (fun (a : Unit) (k : Unit) => []) (fun a k => []) (fun _ => rfl) ⟨leA, ?_⟩
  rintro n _ _ hm h4
  replace h4 : d_voucher_Plain_L1 a1 (n + 1) = some _ := h4
  rw [d_voucher_Plain_L1] at h4
  refine tc tbk 5 (.mk ?_)
  refine nb tbk h4 fun x18 h4 => ?_
  refine tr tbk 1 (.mk ?_)
  obtain ⟨p19, h4⟩ := asrt_e h4
  subst p19
  refine tc tbk 2 (.mk ?_)
  exact lf h4 () leA
  rintro _ _ h3
  refine tc tbk 6 (.mk ?_)
  obtain ⟨j20, h4, h3⟩ := bind_e h3
  refine rse (Out := fun y H' => (∃ (a : (List GLine)) (k : Unit), a = j20 ∧ y = .tup [] ∧ H' = hk [(1, ⟨78, 2, true, true, v12, a.map GLine.av⟩), (2, ⟨159, 1, true, true, v14, [[.fn (.func 123) [] []]]⟩)])) rfl rfl rfl (yl_call rfl rfl (.cons rfl (.cons rfl (.cons rfl (.cons rfl .nil)))) cal164 ?_) ?_
  refine pcw (c := _) Tryz.func164 rfl rfl ?_; intro Q hret hnorm
  refine tc tbk 3 (.mk ?_)
  refine rst rfl rfl rfl (yv_add (r := 1) rfl rfl rfl (by decide)) ?_
  refine tr tbk 2 (.mk ?_)
  refine jn h4 [] [2] (fun (a : (List GLine)) (k : Unit) => []) (fun a k => [(1, ⟨78, 2, true, true, v12, a.map GLine.av⟩)]) ⟨fun j21 h5 => ?_, ?_⟩
  refine tc tbk 1 (.mk ?_)
  refine lp (fun n (a : Int × (List GLine)) => d_voucher_Plain_L2 a1 n a.1 a.2) ((1 : Int), (a1 : List GLine)) () h5 [1, 2, 3] [2] (fun (a : Int × (List GLine)) (k : Unit) => [(0, .sl 1 v12 0 a.2.length), (8, int a.1)]) (fun a k => [(1, ⟨78, 2, true, true, v12, a.2.map GLine.av⟩)]) (fun _ => rfl) ⟨leA, ?_⟩
  rintro n ⟨y6_1, y6_2⟩ _ hm h5
  replace h5 : d_voucher_Plain_L2 a1 (n + 1) y6_1 y6_2 = some _ := h5
  rw [d_voucher_Plain_L2] at h5
  refine tc tbk 5 (.mk ?_)
  refine nb tbk h5 fun x22 h5 => ?_
  refine tr tbk 1 (.mk ?_)
  cases x22
  replace h5 := cf h5
  refine tc tbk 2 (.mk ?_)
  exact lf h5 () leA
  replace h5 := ct h5
  refine tc tbk 3 (.mk ?_)
  refine jn h5 [1, 2, 3, 8] [2] (fun (a : (List GLine)) (k : Unit) => [(0, .sl 1 v12 0 a.length)]) (fun a k => [(1, ⟨78, 2, true, true, v12, a.map GLine.av⟩)]) ⟨fun j23 h6 => ?_, ?_⟩
  refine tc tbk 6 (.mk ?_)
  refine jn h6 [1, 2, 3, 8] [2] (fun (a : (List GLine)) (k : Unit) => [(0, .sl 1 v12 0 a.length)]) (fun a k => [(1, ⟨78, 2, true, true, v12, a.map GLine.av⟩)]) ⟨fun j24 h7 => ?_, ?_⟩
  refine tc tbk 1 (.mk ?_)
  refine lp (fun n (a : Int × (List GLine)) => d_voucher_Plain_L3 n a.1 a.2) ((y6_1 : Int), (y6_2 : List GLine)) () h7 [1, 2, 3, 8] [2] (fun (a : Int × (List GLine)) (k : Unit) => [(0, .sl 1 v12 0 a.2.length), (9, int a.1)]) (fun a k => [(1, ⟨78, 2, true, true, v12, a.2.map GLine.av⟩)]) (fun _ => rfl) ⟨leA, ?_⟩
  rintro n ⟨y7_1, y7_2⟩ _ hm h7
  replace h7 : d_voucher_Plain_L3 (n + 1) y7_1 y7_2 = some _ := h7
  rw [d_voucher_Plain_L3] at h7
  refine tc tbk 2 (.mk ?_)
  refine jn h7 [0, 1, 2, 3, 8, 9] [1, 2] (fun (a : Bool) (k : Unit) => [(34, boo a)]) (fun a k => []) ⟨fun j25 h8 => ?_, ?_⟩
  refine c_drawE [0, 0, 3, 7, 15, 15, 15, 111, 239, 15, 15, 1039, 3599, 7695, 16383, 32767, 65535] (rl [(7, [1]), (8, [1]), (12, [1]), (13, [1])] []) (rl [(14, [])] [1]) (rl [(14, false)] true) [0, 1, 2, 3, 4, 5, 6, 7, 8, 9, 10, 11, 12, 13, 14, 15, 16] mixed (by kernel_rfl) ?_; intro K hK
  iterate 2 refine eM ?_
  obtain ⟨x26, e26, h8⟩ := bnd_e h8
  refine eP (fun H hH => yv_to (y := boo x26) (yv_gtr rfl rfl rfl) (congrArg boo e26)) ?_
  refine eM ?_
  cases x26
  replace h8 := cf h8
  refine de_skip rfl rfl rfl ?_
  refine de_skip rfl rfl rfl ?_
  refine de_skip rfl rfl rfl ?_
  refine de_skip rfl rfl rfl ?_
  refine de_skip rfl rfl rfl ?_
  refine de_skip rfl rfl rfl ?_
  refine de_skip rfl rfl rfl ?_
  refine de_skip rfl rfl rfl ?_
  refine de_skip rfl rfl rfl ?_
  refine de_skip rfl rfl rfl ?_
  refine de_skip rfl rfl rfl ?_
  refine de_skip rfl rfl rfl ?_
  refine eP (fun H hH => yv_pick rfl rfl (fun _ => rfl) (fun _ => rfl) rfl) ?_
  refine de_nil (hK _ ?_)
  exact lf h8 () leA
  replace h8 := ct h8
  iterate 3 refine eM ?_
  obtain ⟨x27, e27, h8⟩ := bind_e h8
  refine de_pure rfl rfl rfl rfl (fun H hH => yv_ixO rfl Tryz.underlying79 sh78 rfl rfl ((hH _ (by decide)).trans rfl) rfl rfl (Eq.symm rfl) (List.length_map _) e27) ?_
  refine eL sh78 (hr := ix_get e27) ?_
  iterate 2 refine eM ?_
  obtain ⟨x28, e28, h8⟩ := bnd_e h8
  refine eP (fun H hH => yv_sub rfl rfl rfl e28) ?_
  obtain ⟨x29, e29, h8⟩ := bind_e h8
  refine de_pure rfl rfl rfl rfl (fun H hH => yv_ixO rfl Tryz.underlying79 sh78 rfl rfl ((hH _ (by decide)).trans rfl) rfl rfl (Eq.symm rfl) (List.length_map _) e29) ?_
  refine eL sh78 (hr := ix_get e29) ?_
  obtain ⟨j30, h9, h8⟩ := bind_e h8
  refine de_eff (Out := fun y H' => (∃ (a : Int) (k : Unit), a = j30 ∧ y = int a ∧ H' = hk [(1, ⟨78, 2, true, true, v12, y7_2.map GLine.av⟩), (2, ⟨159, 1, true, true, v14, [[.fn (.func 123) [] []]]⟩)])) rfl rfl rfl rfl (yl_call rfl rfl (.cons rfl (.cons rfl .nil)) cal148 ?_) (by rintro y _ ⟨y8_1, _, rfl, hc, rfl⟩ <;> exact trivial) ?_
  refine pcw (c := _) Tryz.func148 rfl rfl ?_; intro Q hret hnorm
  refine tc tbk 2 (.mk ?_)
  refine rse rfl rfl rfl (yl_box 3 .any rfl rfl rfl) ?_; rintro _ _ ⟨v31, -, rfl, rfl⟩
  refine rse rfl rfl rfl (yl_box 4 .any rfl rfl rfl) ?_; rintro _ _ ⟨v32, -, rfl, rfl⟩
  refine tr tbk 3 (.mk ?_)
  refine c_drawE [0, 0, 3, 0, 0, 31, 63, 127] (rl [(0, [2]), (1, [3]), (3, [2]), (4, [4])] []) (fun i => [2, 3, 4]) (fun i => true) [0, 1, 2, 3, 4, 5, 6, 7] mixed (by kernel_rfl) ?_; intro K hK
  refine eL sh159 ?_
  refine eL sh78 ?_
  obtain ⟨x33, e33, h9⟩ := bind_e h9
  refine eP (fun H hH => yv_callP rfl rfl (.cons rfl .nil) cal123 (CvL.refl _) (d_voucher_Plain_2_c e33)) ?_
  refine eL sh159 ?_
  refine eL sh78 ?_
  obtain ⟨x34, e34, h9⟩ := bind_e h9
  refine eP (fun H hH => yv_callP rfl rfl (.cons rfl .nil) cal123 (CvL.refl _) (d_voucher_Plain_2_c e34)) ?_
  obtain ⟨x35, e35, h9⟩ := bind_e h9
  refine eP (fun H hH => yv_callP rfl rfl (.cons rfl (.cons rfl .nil)) cal149 (CvL.refl _) (d_cmp_Compare_int_c e35)) ?_
  refine eA ?_
  refine de_nil (hK _ ?_)
  obtain rfl := nxt_e h9
  refine w_ret (hret _ _ (hk [(1, ⟨78, 2, true, true, v12, y7_2.map GLine.av⟩), (2, ⟨159, 1, true, true, v14, [[.fn (.func 123) [] []]]⟩)]) (.tmp rfl .nil) (HK.le ⟨rfl, rfl, trivial⟩) ?_)
  exact ⟨x35, (), rfl, rfl, rfl⟩
  rintro y _ ⟨y8_1, _, rfl, hc, rfl⟩
  subst hc
  obtain ⟨x36, e36, h8⟩ := bnd_e h8
  refine eP (fun H hH => yv_to (y := boo x36) (yv_lss rfl rfl rfl) (congrArg boo e36)) ?_
  refine eP (fun H hH => yv_pick rfl rfl (fun _ => rfl) (fun _ => rfl) rfl) ?_
  refine de_nil (hK _ ?_)
  exact lf h8 () leA
  rintro y10_1 _ h7
  cases y10_1
  replace h7 := cf h7
  refine tc tbk 2 (.mk ?_)
  exact lf h7 () leA
  replace h7 := ct h7
  refine tc tbk 4 (.mk ?_)
  refine c_drawE [0, 0, 0, 0, 8, 0, 0, 64, 224, 480, 0, 0, 3072, 7168, 16355, 32739, 65535, 131071] (rl [(8, [1]), (9, [1]), (12, [1]), (13, [1]), (14, [1]), (16, [1])] []) (rl [(15, []), (17, [])] [1]) (rl [(15, false), (17, false)] true) [0, 1, 2, 3, 4, 5, 6, 7, 8, 9, 10, 11, 12, 13, 14, 15, 16, 17] mixed (by kernel_rfl) ?_; intro K hK
  iterate 4 refine eM ?_
  obtain ⟨x37, e37, h7⟩ := bnd_e h7
  refine eP (fun H hH => yv_sub rfl rfl rfl e37) ?_
  iterate 2 refine eM ?_
  obtain ⟨x38, e38, h7⟩ := bnd_e h7
  refine eP (fun H hH => yv_sub rfl rfl rfl e38) ?_
  obtain ⟨x39, e39, h7⟩ := bind_e h7
  refine de_pure rfl rfl rfl rfl (fun H hH => yv_ixO rfl Tryz.underlying79 sh78 rfl rfl ((hH _ (by decide)).trans rfl) rfl rfl (Eq.symm rfl) (List.length_map _) e39) ?_
  refine eL sh78 (hr := ix_get e39) ?_
  iterate 2 refine eM ?_
  obtain ⟨x40, e40, h7⟩ := bind_e h7
  refine de_pure rfl rfl rfl rfl (fun H hH => yv_ixO rfl Tryz.underlying79 sh78 rfl rfl ((hH _ (by decide)).trans rfl) rfl rfl (Eq.symm rfl) (List.length_map _) e40) ?_
  refine eL sh78 (hr := ix_get e40) ?_
  refine de_pure rfl rfl rfl rfl (fun H hH => yv_ixO rfl Tryz.underlying79 sh78 rfl rfl ((hH _ (by decide)).trans rfl) rfl rfl (Eq.symm rfl) (List.length_map _) e40) ?_
  obtain ⟨x41, e41, h7⟩ := bnd_e h7
  have fx41 := ix_set e40 e41; have lx41 := len_setV e41 (rfl : y7_2.length = y7_2.length)
  refine de_eff0 rfl rfl rfl rfl (Yield.weak (yl_ob (ob' := (⟨78, 2, true, true, v12, x41.map GLine.av⟩ : AObj)) (yl_store rfl sh78 rfl rfl rfl rfl rfl (ix_get e40) rfl rfl rfl) (ob_eq (map_setV e41))) (fun _ h => h) (fun _ _ => trivial)) (by rintro _ _ ⟨rfl, rfl⟩; exact trivial) ?_; rintro _ _ ⟨rfl, rfl⟩
  obtain ⟨x42, e42, h7⟩ := bind_e h7
  refine de_pure rfl rfl rfl rfl (fun H hH => yv_ixO rfl Tryz.underlying79 sh78 rfl rfl ((hH _ (by decide)).trans rfl) rfl rfl (Eq.symm lx41) (List.length_map _) e42) ?_
  obtain ⟨x43, e43, h7⟩ := bnd_e h7
  have fx43 := ix_set e42 e43; have lx43 := len_setV e43 lx41
  refine de_eff0 rfl rfl rfl rfl (Yield.weak (yl_ob (ob' := (⟨78, 2, true, true, v12, x43.map GLine.av⟩ : AObj)) (yl_store rfl sh78 rfl rfl rfl rfl rfl (ix_get e42) rfl rfl rfl) (ob_eq (map_setV e43))) (fun _ h => h) (fun _ _ => trivial)) (by rintro _ _ ⟨rfl, rfl⟩; exact trivial) ?_; rintro _ _ ⟨rfl, rfl⟩
  refine de_nil (hK _ ?_)
  refine tc tbk 3 (.mk ?_)
  refine ni tbk h7 fun x44 h7 => ?_
  refine tr tbk 2 (.mk ?_)
  exact bk (x44, x43) () h7 (leH_kn ⟨⟨_, rfl, (cv_slen (Eq.symm lx43))⟩, ⟨_, rfl, (.refl _)⟩, ⟨_, rfl, (.refl _)⟩, ⟨_, rfl, (.refl _)⟩, ⟨_, rfl, (.refl _)⟩, ⟨_, rfl, (.refl _)⟩, trivial⟩ ⟨⟨_, rfl, (.refl _)⟩, ⟨_, rfl, (.refl _)⟩, trivial⟩)
  rintro y11_1 _ h6
  refine tc tbk 1 (.mk ?_)
  exact lf h6 () leA
  rintro y12_1 _ h5
  refine tc tbk 2 (.mk ?_)
  refine ni tbk h5 fun x45 h5 => ?_
  refine tr tbk 2 (.mk ?_)
  exact bk (x45, y12_1) () h5 leA
  rintro y13_1 _ h4
  obtain rfl := nxt_e h4
  refine c_nil (hnorm _ _ (hk [(1, ⟨78, 2, true, true, v12, y13_1.map GLine.av⟩), (2, ⟨159, 1, true, true, v14, [[.fn (.func 123) [] []]]⟩)]) .nil (HK.le ⟨rfl, rfl, trivial⟩) ?_)
  exact ⟨y13_1, (), rfl, rfl, rfl⟩
  rintro y _ ⟨y14_1, _, rfl, hc, rfl⟩
  subst hc
  refine tr tbk 1 (.mk ?_)
  obtain ⟨p46, h3⟩ := asrt_e h3
  refine jn h3 [] [1, 2] (fun (a : Unit) (k : Unit) => []) (fun a k => []) ⟨fun j47 h4 => ?_, ?_⟩
  refine tc tbk 1 (.mk ?_)
  refine lp (fun n (a : Unit) => d_voucher_Plain_L4 a1 n) () () h4 [0, 1, 2, 6] [1, 2] (fun (a : Unit) (k : Unit) => []) (fun a k => []) (fun _ => rfl) ⟨leA, ?_⟩
  rintro n _ _ hm h4
  replace h4 : d_voucher_Plain_L4 a1 (n + 1) = some _ := h4
  rw [d_voucher_Plain_L4] at h4
  refine tc tbk 5 (.mk ?_)
  refine nb tbk h4 fun x48 h4 => ?_
  refine tr tbk 1 (.mk ?_)
  obtain ⟨p49, h4⟩ := asrt_e h4
  subst p49
  refine tc tbk 2 (.mk ?_)
  exact lf h4 () leA
  rintro _ _ h3
  obtain rfl := nxt_e h3
  refine c_nil (hnorm _ _ (hk [(1, ⟨78, 2, true, true, v12, y14_1.map GLine.av⟩), (2, ⟨159, 1, true, true, v14, [[.fn (.func 123) [] []]]⟩)]) .nil (HK.le ⟨rfl, rfl, trivial⟩) ?_)
  exact ⟨y14_1, (), rfl, rfl, rfl⟩
  rintro y _ ⟨y17_1, _, rfl, hc, rfl⟩
  subst hc
  refine tr tbk 1 (.mk ?_)
  obtain rfl := nxt_e h2
  refine g_nil (hnorm _ _ (hk [(1, ⟨78, 2, true, true, v12, y17_1.map GLine.av⟩), (2, ⟨159, 1, true, true, v14, [[.fn (.func 123) [] []]]⟩)]) .nil (HK.le ⟨rfl, rfl, trivial⟩) ?_)
  exact ⟨y17_1, (), rfl, rfl, rfl⟩
  rintro y _ ⟨y18_1, _, rfl, hc, rfl⟩
  subst hc
  refine tr tbk 1 (.mk ?_)
  obtain rfl := nxt_e h1
  refine g_nil (hnorm _ _ (hk [(1, ⟨78, 2, true, true, v12, y18_1.map GLine.av⟩)]) .nil (HK.le ⟨rfl, trivial⟩) ?_)
  exact ⟨y18_1, (), rfl, rfl, rfl⟩
  rintro y _ ⟨y19_1, _, rfl, hc, rfl⟩
  subst hc
  refine tr tbk 8 (.mk ?_)
  obtain ⟨p50, h0⟩ := asrt_e h0
  refine rst rfl rfl rfl (yv_move rfl rfl) ?_
  refine rst rfl rfl rfl (yv_len_sl rfl Tryz.underlying79 rfl (.sl rfl rfl)) ?_
  refine tr tbk 2 (.mk ?_)
  refine jnE h0 [2, 3] [] (fun (a : (List GLine)) (k : Nat) => [(5, .sl 7 k 0 a.length)]) (fun a k => [(7, ⟨78, 2, true, true, k, a.map GLine.av⟩)]) ⟨fun j51 h1 h0 => ?_, ?_⟩
  refine tc tbk 1 (.mk ?_)
  refine c_nilobj 5 7 78 2 rfl rfl ?_; intro v52
  refine lp (fun n (a : Int × (List GLine)) => d_voucher_Plain_L5 a1 y19_1 n a.1 a.2) ((0 : Int), (([] : List GLine) : List GLine)) v52 h1 [2, 3, 17, 18] [1] (fun (a : Int × (List GLine)) (k : Nat) => [(5, .sl 7 k 0 a.2.length), (19, int a.1)]) (fun a k => [(7, ⟨78, 2, true, true, k, a.2.map GLine.av⟩)]) (fun _ => rfl) ⟨leA, ?_⟩
  rintro n ⟨y20_2, y20_3⟩ w20_1 hm h1
  replace h1 : d_voucher_Plain_L5 a1 y19_1 (n + 1) y20_2 y20_3 = some _ := h1
  rw [d_voucher_Plain_L5] at h1
  refine tc tbk 2 (.mk ?_)
  refine nb tbk h1 fun x53 h1 => ?_
  refine tr tbk 2 (.mk ?_)
  cases x53
  replace h1 := cf h1
  refine tc tbk 2 (.mk ?_)
  exact lfE h1 w20_1 leA
  replace h1 := ct h1
  refine tc tbk 3 (.mk ?_)
  refine jnE h1 [2, 3, 17, 18, 19] [1] (fun (a : (List GLine)) (k : Nat) => [(5, .sl 7 k 0 a.length)]) (fun a k => [(7, ⟨78, 2, true, true, k, a.map GLine.av⟩)]) ⟨fun j54 h2 h1 => ?_, ?_⟩
  refine tc tbk 3 (.mk ?_)
  obtain ⟨x55, e55, h2⟩ := bind_e h2
  refine rst rfl rfl rfl (yv_ixO rfl Tryz.underlying79 sh78 rfl rfl rfl rfl rfl (Eq.symm p50) (List.length_map _) e55) ?_
  refine rst rfl rfl rfl (yv_load rfl sh78 rfl (.pt rfl rfl (ix_get e55)) rfl) ?_
  refine rse rfl rfl rfl (yl_alloc 5 .any rfl z78 rfl) ?_; rintro _ _ ⟨v56, -, rfl, rfl⟩
  refine sS ⟨78, 2, true, true, v56, [[int x55.Account, int x55.Amount]]⟩ sh78 ?_
  refine tr tbk 5 (.mk ?_)
  refine rst rfl rfl rfl (yv_len_sl rfl Tryz.underlying79 rfl (.sl rfl rfl)) ?_
  refine ni tbk h2 fun x57 h2 => ?_
  refine tr tbk 3 (.mk ?_)
  refine jn h2 [2, 3, 5, 7, 8, 17, 18, 19] [1, 5, 7] (fun (a : Bool) (k : Unit) => [(37, boo a)]) (fun a k => []) ⟨fun j58 h3 => ?_, ?_⟩
  refine c_drawE [0, 1, 3, 7, 7, 31, 63, 127, 7, 263, 1023, 2047] (rl [(5, [7]), (6, [7]), (7, [7]), (8, [5]), (9, [5])] []) (fun i => [5, 7]) (fun i => true) [0, 1, 2, 3, 4, 5, 6, 7, 8, 9, 10, 11] mixed (by kernel_rfl) ?_; intro K hK
  refine eM ?_
  obtain ⟨x59, e59, h3⟩ := bnd_e h3
  refine eP (fun H hH => yv_to (y := boo x59) (yv_geq rfl rfl rfl) (congrArg boo e59)) ?_
  refine eM ?_
  cases x59
  replace h3 := cf h3
  refine de_skip rfl rfl rfl ?_
  refine de_skip rfl rfl rfl ?_
  refine de_skip rfl rfl rfl ?_
  refine de_skip rfl rfl rfl ?_
  refine de_skip rfl rfl rfl ?_
  refine de_skip rfl rfl rfl ?_
  refine de_skip rfl rfl rfl ?_
  refine de_skip rfl rfl rfl ?_
  refine eP (fun H hH => yv_pick rfl rfl (fun _ => rfl) (fun _ => rfl) rfl) ?_
  refine de_nil (hK _ ?_)
  exact lf h3 () leA
  replace h3 := ct h3
  iterate 2 refine eM ?_
  obtain ⟨x60, e60, h3⟩ := bind_e h3
  refine de_pure rfl rfl rfl rfl (fun H hH => yv_ixO rfl Tryz.underlying79 sh78 rfl rfl ((hH _ (by decide)).trans rfl) rfl rfl (Eq.symm rfl) (List.length_map _) e60) ?_
  refine eF fo78_0 (hr := ix_get e60) ?_
  refine eL sh3 (hr := ix_get e60) ?_
  refine eF fo78_0 ?_
  refine eL sh3 ?_
  obtain ⟨x61, e61, h3⟩ := bnd_e h3
  refine eP (fun H hH => yv_to (y := boo x61) (yv_eql rfl rfl rfl) (congrArg boo e61)) ?_
  refine eP (fun H hH => yv_pick rfl rfl (fun _ => rfl) (fun _ => rfl) rfl) ?_
  refine de_nil (hK _ ?_)
  exact lf h3 () leA
  rintro y21_1 _ h2
  cases y21_1
  replace h2 := cf h2
  refine tc tbk 5 (.mk ?_)
  refine rst rfl rfl rfl (yv_to (y := lst 2 GLine.av ([x55] : List GLine)) (yv_buildSlice (ps := [(0, _)]) (rows := [[int x55.Account, int x55.Amount]]) rfl Tryz.underlying79 bz78 (.cons rfl .nil) (by kernel_rfl) rfl rfl rfl) rfl) ?_
  obtain ⟨x62, e62, h2⟩ := bnd_e h2
  obtain ⟨p63, h2⟩ := asrt_e h2
  refine rse rfl rfl rfl (yl_appT (g := GLine.av) (l := y20_3) (m := ([x55] : List GLine)) .any rfl Tryz.underlying79 bz78 by78 rfl rfl rfl rfl rfl rfl rfl rfl rfl rfl (Eq.symm rfl) (.refl _) (fun _ => rfl) e62 p63) ?_; rintro _ _ ⟨v64, -, rfl, rfl⟩
  refine tr tbk 3 (.mk ?_)
  exact lfE h2 v64 leA
  replace h2 := ct h2
  refine tc tbk 2 (.mk ?_)
  refine c_drawE [0, 0, 3, 7, 15, 0, 32, 127, 255, 511, 511, 1023, 4095] (rl [(2, [7]), (3, [7]), (4, [7]), (5, [5]), (6, [5])] []) (fun i => [5, 7]) (fun i => true) [0, 1, 2, 3, 4, 5, 6, 7, 8, 9, 10, 11, 12] mixed (by kernel_rfl) ?_; intro K hK
  iterate 2 refine eM ?_
  obtain ⟨x65, e65, h2⟩ := bind_e h2
  refine de_pure rfl rfl rfl rfl (fun H hH => yv_ixO rfl Tryz.underlying79 sh78 rfl rfl ((hH _ (by decide)).trans rfl) rfl rfl (Eq.symm rfl) (List.length_map _) e65) ?_
  refine eF fo78_1 (hr := ix_get e65) ?_
  refine eL sh3 (hr := ix_get e65) ?_
  refine eF fo78_1 ?_
  refine eL sh3 ?_
  obtain ⟨x66, e66, h2⟩ := bind_e h2
  refine eP (fun H hH => yv_callP rfl rfl (.cons rfl (.cons rfl .nil)) cal82 (CvL.refl _) (d_money_Add_c e66)) ?_
  refine eM ?_
  iterate 2 refine eX ?_
  iterate 2 refine eA ?_
  refine de_nil (hK _ ?_)
  refine tc tbk 4 (.mk ?_)
  refine nb tbk h2 fun x67 h2 => ?_
  refine tr tbk 1 (.mk ?_)
  cases x67
  replace h2 := cf h2
  refine tc tbk 7 (.mk ?_)
  refine rst rfl rfl rfl (yv_ixO rfl Tryz.underlying79 sh78 rfl rfl rfl rfl rfl (Eq.symm rfl) (List.length_map _) e65) ?_
  refine rst rfl rfl rfl (yv_fieldAddr rfl fo78_1 rfl (.pt rfl rfl (ix_get e65)) (.pt _ _ _ _ _)) ?_
  obtain ⟨x68, e68, h2⟩ := bnd_e h2
  have fx68 := ix_set e65 e68; have lx68 := len_setV e68 (rfl : y20_3.length = y20_3.length)
  refine rsstore rfl rfl (yl_ob (ob' := (⟨78, 2, true, true, w20_1, x68.map GLine.av⟩ : AObj)) (yl_store rfl sh3 rfl rfl rfl rfl rfl (ix_get e65) rfl rfl rfl) (ob_eq (map_setV e68))) ?_
  refine tr tbk 2 (.mk ?_)
  exact lfE h2 w20_1 (leH_kn ⟨⟨_, rfl, (cv_slen (Eq.symm lx68))⟩, ⟨_, rfl, (.refl _)⟩, ⟨_, rfl, (.refl _)⟩, ⟨_, rfl, (.refl _)⟩, ⟨_, rfl, (.refl _)⟩, ⟨_, rfl, (.refl _)⟩, trivial⟩ ⟨⟨_, rfl, (.refl _)⟩, ⟨_, rfl, (.refl _)⟩, trivial⟩)
  replace h2 := ct h2
  refine tc tbk 7 (.mk ?_)
  obtain ⟨c69, hX, hj⟩ := esc_e h2; subst hj; replace h1 := hX.trans (sel_r h1)
  obtain ⟨c70, hX, hj⟩ := esc_e h1; subst hj; replace h0 := hX.trans (sel_r h0)
  obtain rfl := nxt_e h0
  refine w_ret (hret _ _ _ (.tmp rfl (.tmp rfl .nil)) (fun _ _ h => h) ?_)
  exact CvL.tup (.cons (.nil _) (.cons (.refl _) .nil))
  rintro y22_2 w22_1 h1
  refine tc tbk 1 (.mk ?_)
  refine ni tbk h1 fun x71 h1 => ?_
  refine tr tbk 2 (.mk ?_)
  exact bk (x71, y22_2) w22_1 h1 leA
  rintro y23_2 w23_1 h0
  refine tc tbk 3 (.mk ?_)
  obtain ⟨j72, h1, h0⟩ := bind_e h0
  refine rse (Out := fun y H' => (∃ (a : Nat × Nat × (List GLine)) (k : Unit), a = j72 ∧ y = .sl 7 w23_1 a.1 a.2.1 ∧ H' = hk [(7, ⟨78, 2, true, true, w23_1, a.2.2.map GLine.av⟩)])) rfl rfl rfl (yl_call rfl rfl (.cons rfl (.cons rfl .nil)) cal124 ?_) ?_
  refine pcw (c := _) Tryz.func124 rfl rfl ?_; intro Q hret hnorm
  refine tc tbk 8 (.mk ?_)
  obtain ⟨j73, h2, h1⟩ := bind_e h1
  refine rse (Out := fun y H' => (∃ (a : Int) (k : Unit), a = j73 ∧ y = int a ∧ H' = hk [(7, ⟨78, 2, true, true, w23_1, y23_2.map GLine.av⟩)])) rfl rfl rfl (yl_call rfl rfl (.cons rfl (.cons rfl .nil)) cal146 ?_) ?_
  refine pcw (c := _) Tryz.func146 rfl rfl ?_; intro Q hret hnorm
  refine tc tbk 8 (.mk ?_)
  refine rst rfl rfl rfl (yv_len_sl rfl Tryz.underlying79 rfl (.sl rfl rfl)) ?_
  refine tr tbk 2 (.mk ?_)
  refine jnE h2 [4] [7] (fun (a : Unit) (k : Unit) => []) (fun a k => []) ⟨fun j74 h3 h2 => ?_, ?_⟩
  refine tc tbk 1 (.mk ?_)
  refine lp (fun n (a : Int) => d_voucher_Plain_L6 y23_2 n a) (0 : Int) () h3 [0, 1, 4, 7] [7] (fun (a : Int) (k : Unit) => [(8, int a)]) (fun a k => []) (fun _ => rfl) ⟨leA, ?_⟩
  rintro n y24_1 _ hm h3
  replace h3 : d_voucher_Plain_L6 y23_2 (n + 1) y24_1 = some _ := h3
  rw [d_voucher_Plain_L6] at h3
  refine tc tbk 2 (.mk ?_)
  refine nb tbk h3 fun x75 h3 => ?_
  refine tr tbk 2 (.mk ?_)
  cases x75
  replace h3 := cf h3
  refine tc tbk 2 (.mk ?_)
  exact lfE h3 () leA
  replace h3 := ct h3
  refine tc tbk 14 (.mk ?_)
  obtain ⟨x76, e76, h3⟩ := bind_e h3
  refine rst rfl rfl rfl (yv_ixO rfl Tryz.underlying79 sh78 rfl rfl rfl rfl rfl (Eq.symm rfl) (List.length_map _) e76) ?_
  refine rst rfl rfl rfl (yv_load rfl sh78 rfl (.pt rfl rfl (ix_get e76)) rfl) ?_
  obtain ⟨x77, e77, h3⟩ := bind_e h3
  refine rst rfl rfl rfl (yv_callP rfl rfl (.cons rfl .nil) cal125 (CvL.refl _) (d_voucher_Plain_3_c e77)) ?_
  refine tr tbk 1 (.mk ?_)
  cases x77
  replace h3 := cf h3
  refine tc tbk 4 (.mk ?_)
  refine ni tbk h3 fun x78 h3 => ?_
  refine tr tbk 2 (.mk ?_)
  exact bk x78 () h3 leA
  replace h3 := ct h3
  refine tc tbk 6 (.mk ?_)
  obtain ⟨c79, hX, hj⟩ := esc_e h3; subst hj; replace h2 := hX.trans (sel_r h2)
  obtain rfl := nxt_e h2
  refine w_ret (hret _ _ (hk [(7, ⟨78, 2, true, true, w23_1, y23_2.map GLine.av⟩)]) (.tmp rfl .nil) (HK.le ⟨rfl, trivial⟩) ?_)
  exact ⟨y24_1, (), rfl, rfl, rfl⟩
  rintro _ _ h2
  refine tc tbk 4 (.mk ?_)
  obtain rfl := nxt_e h2
  refine w_ret (hret _ _ (hk [(7, ⟨78, 2, true, true, w23_1, y23_2.map GLine.av⟩)]) (.tmp rfl .nil) (HK.le ⟨rfl, trivial⟩) ?_)
  exact ⟨(-1), (), rfl, rfl, rfl⟩
  rintro y _ ⟨y26_1, _, rfl, hc, rfl⟩
  subst hc
  refine tr tbk 6 (.mk ?_)
  refine nb tbk h1 fun x80 h1 => ?_
  refine tr tbk 1 (.mk ?_)
  cases x80
  replace h1 := cf h1
  refine tc tbk 6 (.mk ?_)
  refine ni tbk h1 fun x81 h1 => ?_
  refine tr tbk 2 (.mk ?_)
  refine jn h1 [4] [] (fun (a : Int × (List GLine)) (k : Unit) => [(0, .sl 7 w23_1 0 a.2.length), (5, int a.1)]) (fun a k => [(7, ⟨78, 2, true, true, w23_1, a.2.map GLine.av⟩)]) ⟨fun j82 h2 => ?_, ?_⟩
  refine tc tbk 1 (.mk ?_)
  refine lp (fun n (a : Int × Int × (List GLine)) => d_voucher_Plain_L7 n a.1 a.2.1 a.2.2) ((y26_1 : Int), (x81 : Int), (y23_2 : List GLine)) () h2 [1, 4] [] (fun (a : Int × Int × (List GLine)) (k : Unit) => [(0, .sl 7 w23_1 0 a.2.2.length), (5, int a.1), (6, int a.2.1)]) (fun a k => [(7, ⟨78, 2, true, true, w23_1, a.2.2.map GLine.av⟩)]) (fun _ => rfl) ⟨leA, ?_⟩
  rintro n ⟨y27_1, y27_2, y27_3⟩ _ hm h2
  replace h2 : d_voucher_Plain_L7 (n + 1) y27_1 y27_2 y27_3 = some _ := h2
  rw [d_voucher_Plain_L7] at h2
  refine tc tbk 5 (.mk ?_)
  refine rst rfl rfl rfl (yv_len_sl rfl Tryz.underlying79 rfl (.sl rfl rfl)) ?_
  refine nb tbk h2 fun x83 h2 => ?_
  refine tr tbk 1 (.mk ?_)
  cases x83
  replace h2 := cf h2
  refine tc tbk 2 (.mk ?_)
  exact lf h2 () leA
  replace h2 := ct h2
  refine tc tbk 3 (.mk ?_)
  refine jn h2 [1, 4, 6] [] (fun (a : Int × (List GLine)) (k : Unit) => [(0, .sl 7 w23_1 0 a.2.length), (5, int a.1)]) (fun a k => [(7, ⟨78, 2, true, true, w23_1, a.2.map GLine.av⟩)]) ⟨fun j84 h3 => ?_, ?_⟩
  refine tc tbk 5 (.mk ?_)
  obtain ⟨x85, e85, h3⟩ := bind_e h3
  refine rst rfl rfl rfl (yv_ixO rfl Tryz.underlying79 sh78 rfl rfl rfl rfl rfl (Eq.symm rfl) (List.length_map _) e85) ?_
  refine rst rfl rfl rfl (yv_load rfl sh78 rfl (.pt rfl rfl (ix_get e85)) rfl) ?_
  refine rse rfl rfl rfl (yl_alloc 8 .any rfl z78 rfl) ?_; rintro _ _ ⟨v86, -, rfl, rfl⟩
  refine sS ⟨78, 2, true, true, v86, [[int x85.Account, int x85.Amount]]⟩ sh78 ?_
  refine tr tbk 5 (.mk ?_)
  obtain ⟨x87, e87, h3⟩ := bind_e h3
  refine rst rfl rfl rfl (yv_callP rfl rfl (.cons rfl .nil) cal125 (CvL.refl _) (d_voucher_Plain_3_c e87)) ?_
  refine nb tbk h3 fun x88 h3 => ?_
  refine tr tbk 1 (.mk ?_)
  cases x88
  replace h3 := cf h3
  refine tc tbk 3 (.mk ?_)
  exact lf h3 () leA
  replace h3 := ct h3
  refine tc tbk 6 (.mk ?_)
  obtain ⟨x89, e89, h3⟩ := bind_e h3
  refine rst rfl rfl rfl (yv_ixO rfl Tryz.underlying79 sh78 rfl rfl rfl rfl rfl (Eq.symm rfl) (List.length_map _) e89) ?_
  obtain ⟨x90, e90, h3⟩ := bnd_e h3
  have fx90 := ix_set e89 e90; have lx90 := len_setV e90 (rfl : y27_3.length = y27_3.length)
  refine rsstore rfl rfl (yl_ob (ob' := (⟨78, 2, true, true, w23_1, x90.map GLine.av⟩ : AObj)) (yl_store rfl sh78 rfl rfl rfl rfl rfl (ix_get e89) rfl rfl rfl) (ob_eq (map_setV e90))) ?_
  refine tr tbk 3 (.mk ?_)
  refine ni tbk h3 fun x91 h3 => ?_
  refine tr tbk 3 (.mk ?_)
  exact lf h3 () (leH_kn ⟨⟨_, rfl, (cv_slen (Eq.symm lx90))⟩, ⟨_, rfl, (.refl _)⟩, ⟨_, rfl, (.refl _)⟩, ⟨_, rfl, (.refl _)⟩, ⟨_, rfl, (.refl _)⟩, trivial⟩ ⟨⟨_, rfl, (.refl _)⟩, trivial⟩)
  rintro ⟨y28_1, y28_2⟩ _ h2
  replace h2 := p2_e h2
  refine tc tbk 2 (.mk ?_)
  refine ni tbk h2 fun x92 h2 => ?_
  refine tr tbk 2 (.mk ?_)
  exact bk (y28_1, x92, y28_2) () h2 leA
  rintro ⟨y29_1, y29_2⟩ _ h1
  replace h1 := p2_e h1
  refine tc tbk 4 (.mk ?_)
  obtain ⟨p93, h1⟩ := asrt_e h1
  refine rst rfl rfl rfl (yv_slO (len := y29_2.length) (i := y29_1.toNat) (j := y29_2.length) rfl Tryz.underlying79 sh78 rfl rfl rfl rfl (.yes rfl (by first | omega | (dsimp only; omega) | (dsimp only at *; omega))) .no (by first | omega | (dsimp only; omega) | (dsimp only at *; omega)) (Nat.le_refl _) (.inl (by first | omega | (dsimp only; omega) | (dsimp only at *; omega)))) ?_
  obtain ⟨x94, e94, h1⟩ := bnd_e h1
  refine rsstore rfl rfl (yl_ob (ob' := (⟨78, 2, true, true, w23_1, x94.map GLine.av⟩ : AObj)) (yl_clear rfl Tryz.underlying79 bz78 rfl rfl rfl rfl rfl rfl e94) rfl) ?_
  refine tr tbk 5 (.mk ?_)
  obtain ⟨p95, h1⟩ := asrt_e h1
  refine rst rfl rfl rfl (yv_slO (len := y29_2.length) (i := 0) (j := y29_1.toNat) rfl Tryz.underlying79 sh78 rfl rfl rfl rfl .no (.yes rfl (by first | omega | (dsimp only; omega) | (dsimp only at *; omega))) (Nat.zero_le _) (by first | omega | (dsimp only; omega) | (dsimp only at *; omega)) (.inr rfl)) ?_
  refine tr tbk 2 (.mk ?_)
  obtain rfl := nxt_e h1
  refine w_ret (hret _ _ (hk [(7, ⟨78, 2, true, true, w23_1, x94.map GLine.av⟩)]) (.tmp rfl .nil) (HK.le ⟨rfl, trivial⟩) ?_)
  exact ⟨((0 + 0), (y29_1.toNat - 0), x94), (), rfl, rfl, rfl⟩
  replace h1 := ct h1
  refine tc tbk 6 (.mk ?_)
  obtain rfl := nxt_e h1
  refine w_ret (hret _ _ (hk [(7, ⟨78, 2, true, true, w23_1, y23_2.map GLine.av⟩)]) (.tmp rfl .nil) (HK.le ⟨rfl, trivial⟩) ?_)
  exact ⟨(0, y23_2.length, y23_2), (), rfl, rfl, rfl⟩
  rintro y _ ⟨⟨y30_1, y30_2, y30_3⟩, _, rfl, hc, rfl⟩
  replace h0 := p2_e h0
  replace h0 := p2_e h0
  subst hc
  refine tr tbk 3 (.mk ?_)
  obtain ⟨p96, h0⟩ := asrt_e h0
  obtain rfl := nxt_e h0
  refine w_ret (hret _ _ _ (.tmp rfl (.tmp rfl .nil)) (fun _ _ h => h) ?_)
  exact CvL.tup (.cons (cv_win (l := y30_3) rfl rfl rfl rfl (CvLL.refl _) (by first | omega | (simp only [List.length_set]; omega)) rfl) (.cons (.refl _) .nil))
  replace h0 := ct h0
  refine tc tbk 6 (.mk ?_)
  obtain rfl := nxt_e h0
  refine w_ret (hret _ _ _ (.tmp rfl (.tmp rfl .nil)) (fun _ _ h => h) ?_)
  exact CvL.tup (.cons (.nil _) (.cons (.refl _) .nil))
def d_money_Sum_L0 (a1 : List Int) : Nat → Int → Int → Option ((Int) ⊕ (Int × Int))
  | 0, _, _ => none
  | n + 1, y0_1, y0_2 =>
    bnd (decide (y0_2 < (a1.length : Int))) fun x3 =>
    cond x3 ((ix a1 y0_2).bind fun x4 =>
    (d_money_Add y0_1 x4).bind fun x5 =>
    bnd (decide (x5.2 ≠ 0)) fun x6 =>
    cond x6 (esc (some ((0 : Int), (x5.2 : Int)))) (bnd (w64 (y0_2 + 1)) fun x7 =>
    d_money_Sum_L0 a1 n (x5.1 : Int) (x7 : Int))) (brk (y0_1 : Int))
def d_money_Sum (n : Nat) (a1 : List Int) : Option (Int × Int) :=
(show Option ((Int) ⊕ (Int × Int)) from
d_money_Sum_L0 a1 n (0 : Int) (0 : Int)).bind <| sel <| fun y1_1 =>
some ((y1_1 : Int), (0 : Int))
theorem d_money_Sum_c {n : Nat} {a1 : List Int} {r : Int × Int} (h0 : d_money_Sum n a1 = some r) : PP Tryz.prog 116 [lst 1 fI a1] (fun y => y = .tup [int r.1, int r.2]) := by
  unfold d_money_Sum at h0
  refine pp_of_pc (R0 := fun y H => Cv (frzH H) y (.tup [int r.1, int r.2])) ?_ (fun y H hc => ⟨_, rfl, .tup (pvl2 (pvI (r.1)) (pvI (r.2))), hc⟩)
  refine pcw (c := _) Tryz.func116 rfl rfl ?_; intro Q hret hnorm
  refine tc tbk 13 (.mk ?_)
  refine rst rfl rfl rfl (yv_len_sl rfl Tryz.underlying23 rfl (lst_len _)) ?_
  refine tr tbk 2 (.mk ?_)
  refine jnE h0 [2, 3] [] (fun (a : Int) (k : Unit) => [(4, int a)]) (fun a k => []) ⟨fun j2 h1 h0 => ?_, ?_⟩
  refine tc tbk 1 (.mk ?_)
  refine lp (fun n (a : Int × Int) => d_money_Sum_L0 a1 n a.1 a.2) ((0 : Int), (0 : Int)) () h1 [2, 3, 8, 9] [] (fun (a : Int × Int) (k : Unit) => [(4, int a.1), (10, int a.2)]) (fun a k => []) (fun _ => rfl) ⟨leA, ?_⟩
  rintro n ⟨y0_1, y0_2⟩ _ hm h1
  replace h1 : d_money_Sum_L0 a1 (n + 1) y0_1 y0_2 = some _ := h1
  rw [d_money_Sum_L0] at h1
  refine tc tbk 2 (.mk ?_)
  refine nb tbk h1 fun x3 h1 => ?_
  refine tr tbk 2 (.mk ?_)
  cases x3
  replace h1 := cf h1
  refine tc tbk 2 (.mk ?_)
  exact lfE h1 () leA
  replace h1 := ct h1
  refine tc tbk 6 (.mk ?_)
  obtain ⟨x4, e4, h1⟩ := bind_e h1
  refine rst rfl rfl rfl (yv_ixT rfl Tryz.underlying23 sh3 rfl rfl e4) ?_
  refine tr tbk 11 (.mk ?_)
  obtain ⟨x5, e5, h1⟩ := bind_e h1
  refine rst rfl rfl rfl (yv_callP rfl rfl (.cons rfl (.cons rfl .nil)) cal82 (CvL.refl _) (d_money_Add_c e5)) ?_
  refine tr tbk 9 (.mk ?_)
  refine nb tbk h1 fun x6 h1 => ?_
  refine tr tbk 1 (.mk ?_)
  cases x6
  replace h1 := cf h1
  refine tc tbk 4 (.mk ?_)
  refine ni tbk h1 fun x7 h1 => ?_
  refine tr tbk 2 (.mk ?_)
  exact bk (x5.1, x7) () h1 leA
  replace h1 := ct h1
  refine tc tbk 7 (.mk ?_)
  obtain ⟨c8, hX, hj⟩ := esc_e h1; subst hj; replace h0 := hX.trans (sel_r h0)
  obtain rfl := nxt_e h0
  refine w_ret (hret _ _ _ (.tmp rfl (.tmp rfl .nil)) (fun _ _ h => h) ?_)
  exact .refl _
  rintro y1_1 _ h0
  refine tc tbk 6 (.mk ?_)
  obtain rfl := nxt_e h0
  refine w_ret (hret _ _ _ (.tmp rfl (.tmp rfl .nil)) (fun _ _ h => h) ?_)
  exact .refl _
def d_voucher_sum_L0 (a1 : List GLine) : Nat → Int → (List Int) → Option ((List Int))
  | 0, _, _ => none
  | n + 1, y0_2, y0_3 =>
    bnd (decide (y0_2 < (a1.length : Int))) fun x4 =>
    cond x4 ((ix a1 y0_2).bind fun x5 =>
    bnd (y0_3 ++ ([x5.Amount] : List Int)) fun x7 =>
    asrt (x7.length ≤ 68719476736) <|
    bnd (w64 (y0_2 + 1)) fun x10 =>
    d_voucher_sum_L0 a1 n (x10 : Int) (x7 : List Int)) (some (y0_3 : List Int))
def d_voucher_sum (n : Nat) (a1 : List GLine) : Option (Int × Int) :=
(show Option ((List Int)) from
d_voucher_sum_L0 a1 n (0 : Int) (([] : List Int) : List Int)).bind <| fun y1_2 =>
(d_money_Sum n y1_2).bind fun x11 =>
some ((x11.1 : Int), (x11.2 : Int))
theorem d_voucher_sum_c {n : Nat} {a1 : List GLine} {r : Int × Int} (h0 : d_voucher_sum n a1 = some r) : PP Tryz.prog 152 [lst 2 GLine.av a1] (fun y => y = .tup [int r.1, int r.2]) := by
  unfold d_voucher_sum at h0
  refine pp_of_pc (R0 := fun y H => Cv (frzH H) y (.tup [int r.1, int r.2])) ?_ (fun y H hc => ⟨_, rfl, .tup (pvl2 (pvI (r.1)) (pvI (r.2))), hc⟩)
  refine pcw (c := _) Tryz.func152 rfl rfl ?_; intro Q hret hnorm
  refine tc tbk 13 (.mk ?_)
  refine rst rfl rfl rfl (yv_len_sl rfl Tryz.underlying79 rfl (lst_len _)) ?_
  refine tr tbk 2 (.mk ?_)
  refine jn h0 [2, 3] [] (fun (a : (List Int)) (k : Nat) => [(4, .sl 3 k 0 a.length)]) (fun a k => [(3, ⟨3, 1, true, true, k, a.map fI⟩)]) ⟨fun j2 h1 => ?_, ?_⟩
  refine tc tbk 1 (.mk ?_)
  refine c_nilobj 4 3 3 1 rfl rfl ?_; intro v3
  refine lp (fun n (a : Int × (List Int)) => d_voucher_sum_L0 a1 n a.1 a.2) ((0 : Int), (([] : List Int) : List Int)) v3 h1 [2, 3, 7, 8] [] (fun (a : Int × (List Int)) (k : Nat) => [(4, .sl 3 k 0 a.2.length), (9, int a.1)]) (fun a k => [(3, ⟨3, 1, true, true, k, a.2.map fI⟩)]) (fun _ => rfl) ⟨leA, ?_⟩
  rintro n ⟨y0_2, y0_3⟩ w0_1 hm h1
  replace h1 : d_voucher_sum_L0 a1 (n + 1) y0_2 y0_3 = some _ := h1
  rw [d_voucher_sum_L0] at h1
  refine tc tbk 2 (.mk ?_)
  refine nb tbk h1 fun x4 h1 => ?_
  refine tr tbk 2 (.mk ?_)
  cases x4
  replace h1 := cf h1
  refine tc tbk 2 (.mk ?_)
  exact lf h1 w0_1 leA
  replace h1 := ct h1
  refine tc tbk 6 (.mk ?_)
  obtain ⟨x5, e5, h1⟩ := bind_e h1
  refine rst rfl rfl rfl (yv_ixT rfl Tryz.underlying79 sh78 rfl rfl e5) ?_
  refine tr tbk 1 (.mk ?_)
  refine rse rfl rfl rfl (yl_alloc 1 .any rfl z78 rfl) ?_; rintro _ _ ⟨v6, -, rfl, rfl⟩
  refine sS ⟨78, 2, true, true, v6, [[int x5.Account, int x5.Amount]]⟩ sh78 ?_
  refine tr tbk 5 (.mk ?_)
  refine rst rfl rfl rfl (yv_to (y := lst 1 fI ([x5.Amount] : List Int)) (yv_buildSlice (ps := [(0, _)]) (rows := [[int x5.Amount]]) rfl Tryz.underlying23 bz3 (.cons rfl .nil) (by kernel_rfl) rfl rfl rfl) rfl) ?_
  obtain ⟨x7, e7, h1⟩ := bnd_e h1
  obtain ⟨p8, h1⟩ := asrt_e h1
  refine rse rfl rfl rfl (yl_appT (g := fI) (l := y0_3) (m := ([x5.Amount] : List Int)) .any rfl Tryz.underlying23 bz3 by3 rfl rfl rfl rfl rfl rfl rfl rfl rfl rfl (Eq.symm rfl) (.refl _) (fun _ => rfl) e7 p8) ?_; rintro _ _ ⟨v9, -, rfl, rfl⟩
  refine tr tbk 4 (.mk ?_)
  refine ni tbk h1 fun x10 h1 => ?_
  refine tr tbk 2 (.mk ?_)
  exact bk (x10, x7) v9 h1 leA
  rintro y1_2 w1_1 h0
  refine tc tbk 3 (.mk ?_)
  obtain ⟨x11, e11, h0⟩ := bind_e h0
  refine rst rfl rfl rfl (yv_callT (v := .tup [int x11.1, int x11.2]) rfl rfl (.cons rfl .nil) cal116 (.cons (cv_lst rfl rfl rfl rfl rfl (Eq.symm rfl)) .nil) (d_money_Sum_c e11) rfl) ?_
  refine tr tbk 5 (.mk ?_)
  obtain rfl := nxt_e h0
  refine w_ret (hret _ _ _ (.tmp rfl (.tmp rfl .nil)) (fun _ _ h => h) ?_)
  exact .refl _
def d_voucher_Check_1 (a1 : GLine) : Option (Bool) :=
(show Option (Bool) from
(d_voucher_is a1.Account).bind fun x4 =>
bnd (!x4) fun x5 =>
cond x5 (some (true : Bool)) (bnd (decide (a1.Amount = 0)) fun x6 =>
cond x6 (some (true : Bool)) ((d_voucher_in a1.Amount).bind fun x7 =>
bnd (!x7) fun x8 =>
some (x8 : Bool)))).bind <| fun y0_1 =>
some ((y0_1 : Bool))
theorem d_voucher_Check_1_c {a1 : GLine} {r : Bool} (h0 : d_voucher_Check_1 a1 = some r) : PP Tryz.prog 151 [.agg (GLine.av a1)] (fun y => y = boo r) := by
  unfold d_voucher_Check_1 at h0
  refine pp_of_pc (R0 := fun y H => Cv (frzH H) y (boo r)) ?_ (fun y H hc => ⟨_, rfl, pvB r, hc⟩)
  refine pcw (c := _) Tryz.func151 rfl rfl ?_; intro Q hret hnorm
  refine tc tbk 2 (.mk ?_)
  refine rse rfl rfl rfl (yl_box 1 .any rfl rfl rfl) ?_; rintro _ _ ⟨v2, -, rfl, rfl⟩
  refine tr tbk 3 (.mk ?_)
  refine jn h0 [] [] (fun (a : Bool) (k : Unit) => [(2, boo a)]) (fun a k => []) ⟨fun j3 h1 => ?_, ?_⟩
  refine tc tbk 3 (.mk ?_)
  obtain ⟨x4, e4, h1⟩ := bind_e h1
  refine rst rfl rfl rfl (yv_callP rfl rfl (.cons rfl .nil) cal119 (CvL.refl _) (d_voucher_is_c e4)) ?_
  refine nb tbk h1 fun x5 h1 => ?_
  refine tr tbk 1 (.mk ?_)
  cases x5
  replace h1 := cf h1
  refine tr tbk 2 (.mk ?_)
  refine nb tbk h1 fun x6 h1 => ?_
  refine tr tbk 2 (.mk ?_)
  cases x6
  replace h1 := cf h1
  refine tr tbk 2 (.mk ?_)
  obtain ⟨x7, e7, h1⟩ := bind_e h1
  refine rst rfl rfl rfl (yv_callP rfl rfl (.cons rfl .nil) cal120 (CvL.refl _) (d_voucher_in_c e7)) ?_
  refine nb tbk h1 fun x8 h1 => ?_
  refine tr tbk 3 (.mk ?_)
  exact lf h1 () leA
  replace h1 := ct h1
  refine tr tbk 7 (.mk ?_)
  exact lf h1 () leA
  replace h1 := ct h1
  refine tr tbk 12 (.mk ?_)
  exact lf h1 () leA
  rintro y0_1 _ h0
  obtain rfl := nxt_e h0
  refine w_ret (hret _ _ _ (.tmp rfl .nil) (fun _ _ h => h) ?_)
  exact .refl _
def d_voucher_Check_L0 (a1 : List GLine) : Nat → Int → Option ((Unit) ⊕ ((Int)))
  | 0, _ => none
  | n + 1, y1_1 =>
    bnd (decide (y1_1 < (a1.length : Int))) fun x10 =>
    cond x10 ((ix a1 y1_1).bind fun x11 =>
    (d_voucher_Check_1 x11).bind fun x12 =>
    cond x12 (esc (some (y1_1 : Int))) (bnd (w64 (y1_1 + 1)) fun x13 =>
    d_voucher_Check_L0 a1 n (x13 : Int))) (brk ())
def d_voucher_Check (n : Nat) (a1 : List GLine) : Option (Bool) :=
(show Option (Bool) from
bnd (decide ((a1.length : Int) < 1)) fun x3 =>
cond x3 (some (true : Bool)) (bnd (decide ((a1.length : Int) > 12)) fun x4 =>
some (x4 : Bool))).bind <| fun y0_1 =>
cond y0_1 (some ((false : Bool))) ((d_voucher_sum n a1).bind fun x5 =>
(show Option (Bool) from
(show Option ((Bool)) from
(show Option ((Int)) from
(show Option ((Unit) ⊕ ((Int))) from
d_voucher_Check_L0 a1 n (0 : Int)).bind <| sel <| fun _ =>
some ((-1) : Int)).bind <| fun y3_1 =>
bnd (decide (y3_1 ≥ 0)) fun x15 =>
some (x15 : Bool)).bind <| fun y4_1 =>
bnd (!y4_1) fun x16 =>
cond x16 (bnd (decide (x5.1 = 0)) fun x17 =>
cond x17 (bnd (decide (x5.2 = 0)) fun x18 =>
some (x18 : Bool)) (some (false : Bool))) (some (false : Bool))).bind <| fun y5_1 =>
some ((y5_1 : Bool)))
theorem d_voucher_Check_c {n : Nat} {a1 : List GLine} {r : Bool} (h0 : d_voucher_Check n a1 = some r) : PP Tryz.prog 128 [lst 2 GLine.av a1] (fun y => y = boo r) := by
  unfold d_voucher_Check at h0
  refine pp_of_pc (R0 := fun y H => Cv (frzH H) y (boo r)) ?_ (fun y H hc => ⟨_, rfl, pvB r, hc⟩)
  refine pcw (c := _) Tryz.func128 rfl rfl ?_; intro Q hret hnorm
  refine tc tbk 6 (.mk ?_)
  refine jn h0 [0, 2] [] (fun (a : Bool) (k : Unit) => [(13, boo a)]) (fun a k => []) ⟨fun j2 h1 => ?_, ?_⟩
  refine tc tbk 2 (.mk ?_)
  refine rst rfl rfl rfl (yv_len_sl rfl Tryz.underlying79 rfl (lst_len _)) ?_
  refine nb tbk h1 fun x3 h1 => ?_
  refine tr tbk 1 (.mk ?_)
  cases x3
  replace h1 := cf h1
  refine tr tbk 1 (.mk ?_)
  refine rst rfl rfl rfl (yv_len_sl rfl Tryz.underlying79 rfl (lst_len _)) ?_
  refine nb tbk h1 fun x4 h1 => ?_
  refine tr tbk 2 (.mk ?_)
  exact lf h1 () leA
  replace h1 := ct h1
  refine tr tbk 5 (.mk ?_)
  exact lf h1 () leA
  rintro y0_1 _ h0
  cases y0_1
  replace h0 := cf h0
  refine tc tbk 9 (.mk ?_)
  obtain ⟨x5, e5, h0⟩ := bind_e h0
  refine rst rfl rfl rfl (yv_callP rfl rfl (.cons rfl .nil) cal152 (CvL.refl _) (d_voucher_sum_c e5)) ?_
  refine tr tbk 7 (.mk ?_)
  refine jn h0 [] [] (fun (a : Bool) (k : Unit) => [(2, boo a)]) (fun a k => []) ⟨fun j6 h1 => ?_, ?_⟩
  refine tc tbk 3 (.mk ?_)
  obtain ⟨j7, h2, h1⟩ := bind_e h1
  refine rse (Out := fun y H' => (∃ (a : Bool) (k : Unit), a = j7 ∧ y = boo a ∧ H' = hk [])) rfl rfl rfl (yl_call rfl rfl (.cons rfl (.cons rfl .nil)) cal117 ?_) ?_
  refine pcw (c := _) Tryz.func117 rfl rfl ?_; intro Q hret hnorm
  refine tc tbk 8 (.mk ?_)
  obtain ⟨j8, h3, h2⟩ := bind_e h2
  refine rse (Out := fun y H' => (∃ (a : Int) (k : Unit), a = j8 ∧ y = int a ∧ H' = hk [])) rfl rfl rfl (yl_call rfl rfl (.cons rfl (.cons rfl .nil)) cal146 ?_) ?_
  refine pcw (c := _) Tryz.func146 rfl rfl ?_; intro Q hret hnorm
  refine tc tbk 8 (.mk ?_)
  refine rst rfl rfl rfl (yv_len_sl rfl Tryz.underlying79 rfl (lst_len _)) ?_
  refine tr tbk 2 (.mk ?_)
  refine jnE h3 [4] [] (fun (a : Unit) (k : Unit) => []) (fun a k => []) ⟨fun j9 h4 h3 => ?_, ?_⟩
  refine tc tbk 1 (.mk ?_)
  refine lp (fun n (a : Int) => d_voucher_Check_L0 a1 n a) (0 : Int) () h4 [0, 1, 4, 7] [] (fun (a : Int) (k : Unit) => [(8, int a)]) (fun a k => []) (fun _ => rfl) ⟨leA, ?_⟩
  rintro n y1_1 _ hm h4
  replace h4 : d_voucher_Check_L0 a1 (n + 1) y1_1 = some _ := h4
  rw [d_voucher_Check_L0] at h4
  refine tc tbk 2 (.mk ?_)
  refine nb tbk h4 fun x10 h4 => ?_
  refine tr tbk 2 (.mk ?_)
  cases x10
  replace h4 := cf h4
  refine tc tbk 2 (.mk ?_)
  exact lfE h4 () leA
  replace h4 := ct h4
  refine tc tbk 14 (.mk ?_)
  obtain ⟨x11, e11, h4⟩ := bind_e h4
  refine rst rfl rfl rfl (yv_ixT rfl Tryz.underlying79 sh78 rfl rfl e11) ?_
  refine tr tbk 1 (.mk ?_)
  obtain ⟨x12, e12, h4⟩ := bind_e h4
  refine rst rfl rfl rfl (yv_callP rfl rfl (.cons rfl .nil) cal151 (CvL.refl _) (d_voucher_Check_1_c e12)) ?_
  refine tr tbk 1 (.mk ?_)
  cases x12
  replace h4 := cf h4
  refine tc tbk 4 (.mk ?_)
  refine ni tbk h4 fun x13 h4 => ?_
  refine tr tbk 2 (.mk ?_)
  exact bk x13 () h4 leA
  replace h4 := ct h4
  refine tc tbk 6 (.mk ?_)
  obtain ⟨c14, hX, hj⟩ := esc_e h4; subst hj; replace h3 := hX.trans (sel_r h3)
  obtain rfl := nxt_e h3
  refine w_ret (hret _ _ (hk []) (.tmp rfl .nil) (fun _ _ h => nomatch h) ?_)
  exact ⟨y1_1, (), rfl, rfl, rfl⟩
  rintro _ _ h3
  refine tc tbk 4 (.mk ?_)
  obtain rfl := nxt_e h3
  refine w_ret (hret _ _ (hk []) (.tmp rfl .nil) (fun _ _ h => nomatch h) ?_)
  exact ⟨(-1), (), rfl, rfl, rfl⟩
  rintro y _ ⟨y3_1, _, rfl, hc, rfl⟩
  subst hc
  refine nb tbk h2 fun x15 h2 => ?_
  refine tr tbk 2 (.mk ?_)
  obtain rfl := nxt_e h2
  refine w_ret (hret _ _ (hk []) (.tmp rfl .nil) (fun _ _ h => nomatch h) ?_)
  exact ⟨x15, (), rfl, rfl, rfl⟩
  rintro y _ ⟨y4_1, _, rfl, hc, rfl⟩
  subst hc
  refine nb tbk h1 fun x16 h1 => ?_
  refine tr tbk 1 (.mk ?_)
  cases x16
  replace h1 := cf h1
  refine tr tbk 9 (.mk ?_)
  exact lf h1 () leA
  replace h1 := ct h1
  refine tr tbk 1 (.mk ?_)
  refine nb tbk h1 fun x17 h1 => ?_
  refine tr tbk 2 (.mk ?_)
  cases x17
  replace h1 := cf h1
  refine tr tbk 5 (.mk ?_)
  exact lf h1 () leA
  replace h1 := ct h1
  refine tr tbk 1 (.mk ?_)
  refine nb tbk h1 fun x18 h1 => ?_
  refine tr tbk 3 (.mk ?_)
  exact lf h1 () leA
  rintro y5_1 _ h0
  obtain rfl := nxt_e h0
  refine w_ret (hret _ _ _ (.tmp rfl .nil) (fun _ _ h => h) ?_)
  exact .refl _
  replace h0 := ct h0
  refine tc tbk 5 (.mk ?_)
  obtain rfl := nxt_e h0
  refine w_ret (hret _ _ _ (.tmp rfl .nil) (fun _ _ h => h) ?_)
  exact .refl _
def d_gl_Post_L0 (x9 : (List GLine) × Int) : Nat → Int → (List Int) → Option (((List Int)) ⊕ ((Int × (List Int))))
  | 0, _, _ => none
  | n + 1, y1_1, y1_2 =>
    bnd (decide (y1_1 < (x9.1.length : Int))) fun x16 =>
    cond x16 ((ix x9.1 y1_1).bind fun x17 =>
    (ix y1_2 x17.Account).bind fun x19 =>
    (d_money_Add x19 x17.Amount).bind fun x20 =>
    bnd (y1_2.set (Int.toNat x17.Account) (x20.1 : Int)) fun x21 =>
    bnd (decide (x20.2 ≠ 0)) fun x22 =>
    cond x22 (esc (some ((x20.2 : Int), (x21 : List Int)))) (bnd (w64 (y1_1 + 1)) fun x23 =>
    d_gl_Post_L0 x9 n (x23 : Int) (x21 : List Int))) (brk (y1_2 : List Int))
def d_gl_Post (n : Nat) (a1 : List Int) (a2 : List GLine) : Option ((List Int) × Int) :=
bnd (decide ((a1.length : Int) ≠ 17)) fun x4 =>
cond x4 (some (([] : List Int), (1 : Int))) ((show Option (((List Int)) ⊕ (Int)) from
asrt (a1.length ≤ 68719476736) <|
(show Option ((Int × (List Int))) from
(d_voucher_Plain n a2).bind fun x9 =>
(show Option (Bool) from
bnd (decide (x9.2 ≠ 0)) fun x11 =>
cond x11 (some (true : Bool)) (bnd (decide ((x9.1.length : Int) > 0)) fun x12 =>
cond x12 ((d_voucher_Check n x9.1).bind fun x13 =>
bnd (!x13) fun x14 =>
some (x14 : Bool)) (some (false : Bool)))).bind <| fun y0_1 =>
cond y0_1 (some ((10 : Int), (a1 : List Int))) ((show Option (((List Int)) ⊕ ((Int × (List Int)))) from
d_gl_Post_L0 x9 n (0 : Int) (a1 : List Int)).bind <| sel <| fun y2_1 =>
some ((0 : Int), (y2_1 : List Int)))).bind <| p2 fun (y3_1 : Int) (y3_2 : List Int) =>
bnd (decide (y3_1 ≠ 0)) fun x25 =>
cond x25 (asrt (a1.length ≤ 68719476736) <|
some (.inr (y3_1 : Int))) (asrt (y3_2.length = a1.length) <|
some (.inl (y3_2 : List Int)))).bind <| selr (fun y4_2 =>
some ((y4_2 : List Int), (0 : Int))) <| fun y5_2 =>
some ((a1 : List Int), (y5_2 : Int)))
theorem d_gl_Post_c {n : Nat} {a1 : List Int} {a2 : List GLine} {r : (List Int) × Int} (h0 : d_gl_Post n a1 a2 = some r) : PP Tryz.prog 78 [lst 1 fI a1, lst 2 GLine.av a2] (fun y => y = .tup [lst 1 fI r.1, int r.2]) := by
  unfold d_gl_Post at h0
  refine pp_of_pc (R0 := fun y H => Cv (frzH H) y (.tup [lst 1 fI r.1, int r.2])) ?_ (fun y H hc => ⟨_, rfl, .tup (pvl2 ((pvLs pvcI) (r.1)) (pvI (r.2))), hc⟩)
  refine pcw (c := _) Tryz.func78 rfl rfl ?_; intro Q hret hnorm
  refine tc tbk 2 (.mk ?_)
  refine rse rfl rfl rfl (yl_box 1 .any rfl rfl rfl) ?_; rintro _ _ ⟨v3, -, rfl, rfl⟩
  refine tr tbk 7 (.mk ?_)
  refine rst rfl rfl rfl (yv_len_sl rfl Tryz.underlying23 rfl (lst_len _)) ?_
  refine nb tbk h0 fun x4 h0 => ?_
  refine tr tbk 1 (.mk ?_)
  cases x4
  replace h0 := cf h0
  refine tc tbk 6 (.mk ?_)
  obtain ⟨j5, h1, h0⟩ := bind_e h0
  refine rse (Out := fun y H' => (∃ (a : (List Int)) (k : Nat), (.inl a) = j5 ∧ Cv H' y (.tup [.sl 2 k 0 a.length, int 0]) ∧ H' = hk [(1, ⟨79, 1, true, true, v3, [[lst 2 GLine.av a2]]⟩), (2, ⟨3, 1, true, true, k, a.map fI⟩)]) ∨ (∃ (a : Int) (k : Nat), (.inr a) = j5 ∧ Cv H' y (.tup [.sl 4 k 0 a1.length, int a]) ∧ H' = hk [(1, ⟨79, 1, true, true, v3, [[lst 2 GLine.av a2]]⟩), (4, ⟨3, 1, true, true, k, a1.map fI⟩)])) rfl rfl rfl (yl_call rfl rfl (.cons rfl (.cons rfl .nil)) cal126 ?_) ?_
  refine pcw (c := _) Tryz.func126 rfl rfl ?_; intro Q hret hnorm
  refine tc tbk 8 (.mk ?_)
  obtain ⟨p6, h1⟩ := asrt_e h1
  refine rse rfl rfl rfl (yl_call rfl rfl (.cons rfl .nil) cal150 (pc_cv (clone150_c (id := 2) (l := a1) rfl p6) (.cons (.refl _) .nil))) ?_; rintro _ _ ⟨v7, rfl, rfl⟩
  refine tr tbk 7 (.mk ?_)
  obtain ⟨j8, h2, h1⟩ := bind_e h1
  refine rse (Out := fun y H' => (∃ (a : Int × (List Int)) (k : Unit), a = j8 ∧ y = int a.1 ∧ H' = hk [(1, ⟨79, 1, true, true, v3, [[lst 2 GLine.av a2]]⟩), (2, ⟨3, 1, true, true, v7, a.2.map fI⟩)])) rfl rfl rfl (yl_call rfl rfl (.cons rfl .nil) cal127 ?_) ?_
  refine pcw (c := _) Tryz.func127 rfl rfl ?_; intro Q hret hnorm
  refine tc tbk 7 (.mk ?_)
  obtain ⟨x9, e9, h2⟩ := bind_e h2
  refine rst rfl rfl rfl (yv_callP rfl rfl (.cons rfl .nil) cal77 (CvL.refl _) (d_voucher_Plain_c e9)) ?_
  refine tr tbk 8 (.mk ?_)
  refine jn h2 [0, 3, 4] [1, 2] (fun (a : Bool) (k : Unit) => [(24, boo a)]) (fun a k => []) ⟨fun j10 h3 => ?_, ?_⟩
  refine tc tbk 2 (.mk ?_)
  refine nb tbk h3 fun x11 h3 => ?_
  refine tr tbk 1 (.mk ?_)
  cases x11
  replace h3 := cf h3
  refine tr tbk 1 (.mk ?_)
  refine rst rfl rfl rfl (yv_len_sl rfl Tryz.underlying79 rfl (lst_len _)) ?_
  refine nb tbk h3 fun x12 h3 => ?_
  refine tr tbk 1 (.mk ?_)
  cases x12
  replace h3 := cf h3
  refine tr tbk 6 (.mk ?_)
  exact lf h3 () leA
  replace h3 := ct h3
  refine tr tbk 1 (.mk ?_)
  obtain ⟨x13, e13, h3⟩ := bind_e h3
  refine rst rfl rfl rfl (yv_callP rfl rfl (.cons rfl .nil) cal128 (CvL.refl _) (d_voucher_Check_c e13)) ?_
  refine nb tbk h3 fun x14 h3 => ?_
  refine tr tbk 3 (.mk ?_)
  exact lf h3 () leA
  replace h3 := ct h3
  refine tr tbk 10 (.mk ?_)
  exact lf h3 () leA
  rintro y0_1 _ h2
  cases y0_1
  replace h2 := cf h2
  refine tc tbk 6 (.mk ?_)
  refine rst rfl rfl rfl (yv_len_sl rfl Tryz.underlying79 rfl (lst_len _)) ?_
  refine tr tbk 2 (.mk ?_)
  refine jnE h2 [3] [1] (fun (a : (List Int)) (k : Unit) => []) (fun a k => [(2, ⟨3, 1, true, true, v7, a.map fI⟩)]) ⟨fun j15 h3 h2 => ?_, ?_⟩
  refine tc tbk 1 (.mk ?_)
  refine lp (fun n (a : Int × (List Int)) => d_gl_Post_L0 x9 n a.1 a.2) ((0 : Int), (a1 : List Int)) () h3 [3, 25, 26] [1] (fun (a : Int × (List Int)) (k : Unit) => [(0, .sl 2 v7 0 a.2.length), (27, int a.1)]) (fun a k => [(2, ⟨3, 1, true, true, v7, a.2.map fI⟩)]) (fun _ => rfl) ⟨leA, ?_⟩
  rintro n ⟨y1_1, y1_2⟩ _ hm h3
  replace h3 : d_gl_Post_L0 x9 (n + 1) y1_1 y1_2 = some _ := h3
  rw [d_gl_Post_L0] at h3
  refine tc tbk 2 (.mk ?_)
  refine nb tbk h3 fun x16 h3 => ?_
  refine tr tbk 2 (.mk ?_)
  cases x16
  replace h3 := cf h3
  refine tc tbk 2 (.mk ?_)
  exact lfE h3 () leA
  replace h3 := ct h3
  refine tc tbk 6 (.mk ?_)
  obtain ⟨x17, e17, h3⟩ := bind_e h3
  refine rst rfl rfl rfl (yv_ixT rfl Tryz.underlying79 sh78 rfl rfl e17) ?_
  refine tr tbk 1 (.mk ?_)
  refine rse rfl rfl rfl (yl_alloc 3 .any rfl z78 rfl) ?_; rintro _ _ ⟨v18, -, rfl, rfl⟩
  refine sS ⟨78, 2, true, true, v18, [[int x17.Account, int x17.Amount]]⟩ sh78 ?_
  refine tr tbk 2 (.mk ?_)
  refine c_drawE [0, 0, 2, 0, 0, 16, 56, 120, 0, 256, 1016, 2040, 4088, 4088, 8191, 24575, 65535] (rl [(1, [3]), (2, [3]), (4, [3]), (5, [3]), (6, [2]), (7, [2]), (8, [3]), (9, [3]), (14, [2])] []) (rl [(15, [])] [2, 3]) (rl [(15, false)] true) [0, 1, 2, 3, 4, 5, 6, 7, 8, 9, 10, 11, 12, 13, 14, 15, 16] mixed (by kernel_rfl) ?_; intro K hK
  refine eM ?_
  refine eF fo78_0 ?_
  refine eL sh3 ?_
  refine eM ?_
  refine eF fo78_0 ?_
  refine eL sh3 ?_
  obtain ⟨x19, e19, h3⟩ := bind_e h3
  refine de_pure rfl rfl rfl rfl (fun H hH => yv_ixO rfl Tryz.underlying23 sh3 rfl rfl ((hH _ (by decide)).trans rfl) rfl rfl (Eq.symm rfl) (List.length_map _) e19) ?_
  refine eL sh3 (hr := ix_get e19) ?_
  refine eF fo78_1 ?_
  refine eL sh3 ?_
  obtain ⟨x20, e20, h3⟩ := bind_e h3
  refine eP (fun H hH => yv_callP rfl rfl (.cons rfl (.cons rfl .nil)) cal82 (CvL.refl _) (d_money_Add_c e20)) ?_
  refine eM ?_
  iterate 2 refine eX ?_
  refine de_pure rfl rfl rfl rfl (fun H hH => yv_ixO rfl Tryz.underlying23 sh3 rfl rfl ((hH _ (by decide)).trans rfl) rfl rfl (Eq.symm rfl) (List.length_map _) e19) ?_
  obtain ⟨x21, e21, h3⟩ := bnd_e h3
  have fx21 := ix_set e19 e21; have lx21 := len_setV e21 (rfl : y1_2.length = y1_2.length)
  refine de_eff0 rfl rfl rfl rfl (Yield.weak (yl_ob (ob' := (⟨3, 1, true, true, v7, x21.map fI⟩ : AObj)) (yl_store rfl sh3 rfl rfl rfl rfl rfl (ix_get e19) rfl rfl rfl) (ob_eq (map_setV e21))) (fun _ h => h) (fun _ _ => trivial)) (by rintro _ _ ⟨rfl, rfl⟩; exact trivial) ?_; rintro _ _ ⟨rfl, rfl⟩
  refine eA ?_
  refine de_nil (hK _ ?_)
  refine tc tbk 3 (.mk ?_)
  refine nb tbk h3 fun x22 h3 => ?_
  refine tr tbk 1 (.mk ?_)
  cases x22
  replace h3 := cf h3
  refine tc tbk 4 (.mk ?_)
  refine ni tbk h3 fun x23 h3 => ?_
  refine tr tbk 2 (.mk ?_)
  exact bk (x23, x21) () h3 (leH_kn ⟨⟨_, rfl, (cv_slen (Eq.symm lx21))⟩, ⟨_, rfl, (.refl _)⟩, ⟨_, rfl, (.refl _)⟩, ⟨_, rfl, (.refl _)⟩, ⟨_, rfl, (.refl _)⟩, trivial⟩ ⟨⟨_, rfl, (.refl _)⟩, ⟨_, rfl, (.refl _)⟩, trivial⟩)
  replace h3 := ct h3
  refine tc tbk 6 (.mk ?_)
  obtain ⟨c24, hX, hj⟩ := esc_e h3; subst hj; replace h2 := hX.trans (sel_r h2)
  obtain rfl := nxt_e h2
  refine w_ret (hret _ _ (hk [(1, ⟨79, 1, true, true, v3, [[lst 2 GLine.av a2]]⟩), (2, ⟨3, 1, true, true, v7, x21.map fI⟩)]) (.tmp rfl .nil) (HK.le ⟨rfl, rfl, trivial⟩) ?_)
  exact ⟨(x20.2, x21), (), rfl, rfl, rfl⟩
  rintro y2_1 _ h2
  refine tc tbk 4 (.mk ?_)
  obtain rfl := nxt_e h2
  refine w_ret (hret _ _ (hk [(1, ⟨79, 1, true, true, v3, [[lst 2 GLine.av a2]]⟩), (2, ⟨3, 1, true, true, v7, y2_1.map fI⟩)]) (.tmp rfl .nil) (HK.le ⟨rfl, rfl, trivial⟩) ?_)
  exact ⟨(0, y2_1), (), rfl, rfl, rfl⟩
  replace h2 := ct h2
  refine tc tbk 5 (.mk ?_)
  obtain rfl := nxt_e h2
  refine w_ret (hret _ _ (hk [(1, ⟨79, 1, true, true, v3, [[lst 2 GLine.av a2]]⟩), (2, ⟨3, 1, true, true, v7, a1.map fI⟩)]) (.tmp rfl .nil) (HK.le ⟨rfl, rfl, trivial⟩) ?_)
  exact ⟨(10, a1), (), rfl, rfl, rfl⟩
  rintro y _ ⟨⟨y3_1, y3_2⟩, _, rfl, hc, rfl⟩
  replace h1 := p2_e h1
  subst hc
  refine tr tbk 5 (.mk ?_)
  refine nb tbk h1 fun x25 h1 => ?_
  refine tr tbk 1 (.mk ?_)
  cases x25
  replace h1 := cf h1
  refine tc tbk 4 (.mk ?_)
  obtain ⟨p26, h1⟩ := asrt_e h1
  refine rst rfl rfl rfl (yv_move rfl rfl) ?_
  refine tr tbk 3 (.mk ?_)
  obtain rfl := nxt_e h1
  refine w_ret (hret _ _ (hk [(1, ⟨79, 1, true, true, v3, [[lst 2 GLine.av a2]]⟩), (2, ⟨3, 1, true, true, v7, y3_2.map fI⟩)]) (.tmp rfl (.tmp rfl .nil)) (HK.le ⟨rfl, rfl, trivial⟩) ?_)
  exact (.inl ⟨y3_2, v7, rfl, (CvL.tup (.cons (cv_slen (Eq.symm p26)) (.cons (.refl _) .nil))), rfl⟩)
  replace h1 := ct h1
  refine tc tbk 4 (.mk ?_)
  obtain ⟨p27, h1⟩ := asrt_e h1
  refine rse rfl rfl rfl (yl_call rfl rfl (.cons rfl .nil) cal150 (pc_cv (clone150_c (id := 4) (l := a1) rfl p27) (.cons (.refl _) .nil))) ?_; rintro _ _ ⟨v28, rfl, rfl⟩
  refine tr tbk 4 (.mk ?_)
  obtain rfl := nxt_e h1
  refine w_ret (hret _ _ (hk [(1, ⟨79, 1, true, true, v3, [[lst 2 GLine.av a2]]⟩), (4, ⟨3, 1, true, true, v28, a1.map fI⟩)]) (.tmp rfl (.tmp rfl .nil)) (HK.le ⟨rfl, rfl, trivial⟩) ?_)
  exact (.inr ⟨y3_1, v28, rfl, (.refl _), rfl⟩)
  rintro y _ (⟨y4_2, w4_1, rfl, hc, rfl⟩ | ⟨y5_2, w5_1, rfl, hc, rfl⟩)
  replace h0 := selr_l h0
  refine rs_cv 11 (.tup [.sl 2 w4_1 0 y4_2.length, int 0]) rfl hc ?_
  refine tr tbk 5 (.mk ?_)
  obtain rfl := nxt_e h0
  refine w_ret (hret _ _ _ (.tmp rfl (.tmp rfl .nil)) (fun _ _ h => h) ?_)
  exact CvL.tup (.cons (cv_lst rfl rfl rfl rfl rfl (Eq.symm rfl)) (.cons (.refl _) .nil))
  replace h0 := selr_r h0
  refine rs_cv 11 (.tup [.sl 4 w5_1 0 a1.length, int y5_2]) rfl hc ?_
  refine tr tbk 5 (.mk ?_)
  obtain rfl := nxt_e h0
  refine w_ret (hret _ _ _ (.tmp rfl (.tmp rfl .nil)) (fun _ _ h => h) ?_)
  exact CvL.tup (.cons (cv_lst rfl rfl rfl rfl rfl (Eq.symm rfl)) (.cons (.refl _) .nil))
  replace h0 := ct h0
  refine tc tbk 6 (.mk ?_)
  obtain rfl := nxt_e h0
  refine w_ret (hret _ _ _ (.tmp rfl (.tmp rfl .nil)) (fun _ _ h => h) ?_)
  exact CvL.tup (.cons (.nil _) (.cons (.refl _) .nil))
def d_stock_Post (n : Nat) (a1 : GState) (a2 : Int) (a3 : List GLine) : Option (GState × Int) :=
(show Option (Bool) from
bnd (decide (a2 < 0)) fun x7 =>
cond x7 (some (true : Bool)) (bnd (decide (a2 ≥ (a1.Ents.length : Int))) fun x8 =>
some (x8 : Bool))).bind <| fun y0_1 =>
cond y0_1 (some ((a1 : GState), (4 : Int))) ((d_voucher_Plain n a3).bind fun x9 =>
bnd (decide (x9.2 ≠ 0)) fun x10 =>
cond x10 (some ((a1 : GState), (x9.2 : Int))) ((ix a1.Ents a2).bind fun x11 =>
(d_gl_Post n x11.Bal x9.1).bind fun x12 =>
bnd (decide (x12.2 ≠ 0)) fun x13 =>
cond x13 (some ((a1 : GState), (x12.2 : Int))) ((show Option ((Unit)) from
asrt (a1.Ents.length ≤ 68719476736) <|
(ix a1.Ents a2).bind fun x18 =>
some ()).bind <| fun _ =>
(ix a1.Ents a2).bind fun x19 =>
bnd (a1.Ents.set (Int.toNat a2) ((⟨x19.Now, x19.Closed, x19.Pools, x12.1, x19.Rolls, x19.Prices, x19.Down, x19.Ahead⟩ : GEnt) : GEnt)) fun x20 =>
some (((⟨a1.Master, x20, a1.Receipts, a1.Sales, a1.Transits, a1.Done⟩ : GState) : GState), (0 : Int)))))
theorem d_stock_Post_c {n : Nat} {a1 : GState} {a2 : Int} {a3 : List GLine} {r : GState × Int} (h0 : d_stock_Post n a1 a2 a3 = some r) : PP Tryz.prog 42 [.agg (GState.av a1), int a2, lst 2 GLine.av a3] (fun y => y = .tup [.agg (GState.av r.1), int r.2]) := by
  unfold d_stock_Post at h0
  refine pp_of_pc (R0 := fun y H => Cv (frzH H) y (.tup [.agg (GState.av r.1), int r.2])) ?_ (fun y H hc => ⟨_, rfl, .tup (pvl2 ((fun (a : GState) => PV.agg (GState.pvc a)) (r.1)) (pvI (r.2))), hc⟩)
  refine pcw (c := _) Tryz.func42 rfl rfl ?_; intro Q hret hnorm
  refine tc tbk 2 (.mk ?_)
  refine rse rfl rfl rfl (yl_box 1 .any rfl rfl rfl) ?_; rintro _ _ ⟨v4, -, rfl, rfl⟩
  refine rse rfl rfl rfl (yl_alloc 2 .any rfl z32 rfl) ?_; rintro _ _ ⟨v5, -, rfl, rfl⟩
  refine tr tbk 4 (.mk ?_)
  refine jn h0 [1, 2, 3, 6, 7] [1, 2] (fun (a : Bool) (k : Unit) => [(20, boo a)]) (fun a k => []) ⟨fun j6 h1 => ?_, ?_⟩
  refine tc tbk 2 (.mk ?_)
  refine nb tbk h1 fun x7 h1 => ?_
  refine tr tbk 1 (.mk ?_)
  cases x7
  replace h1 := cf h1
  refine tr tbk 3 (.mk ?_)
  refine rst rfl rfl rfl (yv_len_sl rfl Tryz.underlying27 rfl (lst_len _)) ?_
  refine nb tbk h1 fun x8 h1 => ?_
  refine tr tbk 2 (.mk ?_)
  exact lf h1 () leA
  replace h1 := ct h1
  refine tr tbk 7 (.mk ?_)
  exact lf h1 () leA
  rintro y0_1 _ h0
  cases y0_1
  replace h0 := cf h0
  refine tc tbk 5 (.mk ?_)
  obtain ⟨x9, e9, h0⟩ := bind_e h0
  refine rst rfl rfl rfl (yv_callP rfl rfl (.cons rfl .nil) cal77 (CvL.refl _) (d_voucher_Plain_c e9)) ?_
  refine tr tbk 10 (.mk ?_)
  refine nb tbk h0 fun x10 h0 => ?_
  refine tr tbk 1 (.mk ?_)
  cases x10
  replace h0 := cf h0
  refine tc tbk 7 (.mk ?_)
  obtain ⟨x11, e11, h0⟩ := bind_e h0
  refine rst rfl rfl rfl (yv_to (y := .pp [int x11.Now, boo x11.Closed, lst 4 GPool.av x11.Pools, lst 1 fI x11.Bal, lst 11 GRoll.av x11.Rolls, lst 1 fI x11.Prices, lst 1 fI x11.Down, lst 8 GEnt.av x11.Ahead]) (yv_ixT rfl Tryz.underlying27 sh42 rfl rfl e11) (congrArg AV.pp (GEnt.av_eq x11))) ?_
  refine tr tbk 3 (.mk ?_)
  obtain ⟨x12, e12, h0⟩ := bind_e h0
  refine rst rfl rfl rfl (yv_callP rfl rfl (.cons rfl (.cons rfl .nil)) cal78 (CvL.refl _) (d_gl_Post_c e12)) ?_
  refine tr tbk 10 (.mk ?_)
  refine nb tbk h0 fun x13 h0 => ?_
  refine tr tbk 1 (.mk ?_)
  cases x13
  replace h0 := cf h0
  refine tc tbk 5 (.mk ?_)
  refine rst rfl rfl rfl (yv_build (cs := [int a1.Master.Entities, int a1.Master.Periods, lst 1 fI a1.Master.Weights, lst 1 (fL 1 fI) a1.Master.Methods, lst 1 (fL 1 fI) a1.Master.Costs, lst 8 GEnt.av a1.Ents, lst 8 GReceipt.av a1.Receipts, lst 9 GSale.av a1.Sales, lst 6 GTransit.av a1.Transits, int a1.Done]) (ps := [(0, _)]) rfl pl104 z104 rfl (.cons rfl .nil) (by kernel_rfl)) ?_
  refine rse rfl rfl rfl (yl_alloc 3 .any rfl z104 rfl) ?_; rintro _ _ ⟨v14, -, rfl, rfl⟩
  refine sS ⟨104, 10, true, true, v14, [[int a1.Master.Entities, int a1.Master.Periods, lst 1 fI a1.Master.Weights, lst 1 (fL 1 fI) a1.Master.Methods, lst 1 (fL 1 fI) a1.Master.Costs, lst 8 GEnt.av a1.Ents, lst 8 GReceipt.av a1.Receipts, lst 9 GSale.av a1.Sales, lst 6 GTransit.av a1.Transits, int a1.Done]]⟩ sh104 ?_
  refine tr tbk 4 (.mk ?_)
  obtain ⟨j15, h1, h0⟩ := bind_e h0
  refine rse (Out := fun y H' => (∃ (a : Unit) (k : Nat), a = j15 ∧ y = .pt 4 k (Int.toNat a2) 0 ∧ H' = hk [(1, ⟨32, 10, true, true, v4, [[int a1.Master.Entities, int a1.Master.Periods, lst 1 fI a1.Master.Weights, lst 1 (fL 1 fI) a1.Master.Methods, lst 1 (fL 1 fI) a1.Master.Costs, lst 8 GEnt.av a1.Ents, lst 8 GReceipt.av a1.Receipts, lst 9 GSale.av a1.Sales, lst 6 GTransit.av a1.Transits, int a1.Done]]⟩), (2, ⟨32, 10, true, true, v5, [[int 0, int 0, .sc (.slice none 0 0), .sc (.slice none 0 0), .sc (.slice none 0 0), .sc (.slice none 0 0), .sc (.slice none 0 0), .sc (.slice none 0 0), .sc (.slice none 0 0), int 0]]⟩), (3, ⟨104, 10, true, true, v14, [[int a1.Master.Entities, int a1.Master.Periods, lst 1 fI a1.Master.Weights, lst 1 (fL 1 fI) a1.Master.Methods, lst 1 (fL 1 fI) a1.Master.Costs, .sl 4 k 0 a1.Ents.length, lst 8 GReceipt.av a1.Receipts, lst 9 GSale.av a1.Sales, lst 6 GTransit.av a1.Transits, int a1.Done]]⟩), (4, ⟨42, 8, true, true, k, a1.Ents.map GEnt.av⟩)])) rfl rfl rfl (yl_call rfl rfl (.cons rfl (.cons rfl .nil)) cal79 ?_) ?_
  refine pcw (c := _) Tryz.func79 rfl rfl ?_; intro Q hret hnorm
  refine tc tbk 12 (.mk ?_)
  obtain ⟨p16, h1⟩ := asrt_e h1
  refine rse rfl rfl rfl (yl_call rfl rfl (.cons rfl .nil) cal106 (pc_cv (clone106_c (id := 4) (l := a1.Ents) rfl p16) (.cons (.refl _) .nil))) ?_; rintro _ _ ⟨v17, rfl, rfl⟩
  refine tr tbk 3 (.mk ?_)
  refine sS ⟨104, 10, true, true, v14, [[int a1.Master.Entities, int a1.Master.Periods, lst 1 fI a1.Master.Weights, lst 1 (fL 1 fI) a1.Master.Methods, lst 1 (fL 1 fI) a1.Master.Costs, .sl 4 v17 0 a1.Ents.length, lst 8 GReceipt.av a1.Receipts, lst 9 GSale.av a1.Sales, lst 6 GTransit.av a1.Transits, int a1.Done]]⟩ sh27 ?_
  refine tr tbk 9 (.mk ?_)
  obtain ⟨x18, e18, h1⟩ := bind_e h1
  refine rst rfl rfl rfl (yv_ixO rfl Tryz.underlying27 sh42 rfl rfl rfl rfl rfl (Eq.symm rfl) (List.length_map _) e18) ?_
  refine tr tbk 2 (.mk ?_)
  obtain rfl := nxt_e h1
  refine w_ret (hret _ _ (hk [(1, ⟨32, 10, true, true, v4, [[int a1.Master.Entities, int a1.Master.Periods, lst 1 fI a1.Master.Weights, lst 1 (fL 1 fI) a1.Master.Methods, lst 1 (fL 1 fI) a1.Master.Costs, lst 8 GEnt.av a1.Ents, lst 8 GReceipt.av a1.Receipts, lst 9 GSale.av a1.Sales, lst 6 GTransit.av a1.Transits, int a1.Done]]⟩), (2, ⟨32, 10, true, true, v5, [[int 0, int 0, .sc (.slice none 0 0), .sc (.slice none 0 0), .sc (.slice none 0 0), .sc (.slice none 0 0), .sc (.slice none 0 0), .sc (.slice none 0 0), .sc (.slice none 0 0), int 0]]⟩), (3, ⟨104, 10, true, true, v14, [[int a1.Master.Entities, int a1.Master.Periods, lst 1 fI a1.Master.Weights, lst 1 (fL 1 fI) a1.Master.Methods, lst 1 (fL 1 fI) a1.Master.Costs, .sl 4 v17 0 a1.Ents.length, lst 8 GReceipt.av a1.Receipts, lst 9 GSale.av a1.Sales, lst 6 GTransit.av a1.Transits, int a1.Done]]⟩), (4, ⟨42, 8, true, true, v17, a1.Ents.map GEnt.av⟩)]) (.tmp rfl .nil) (HK.le ⟨rfl, rfl, rfl, rfl, trivial⟩) ?_)
  exact ⟨(), v17, rfl, rfl, rfl⟩
  rintro y _ ⟨_, w1_1, rfl, hc, rfl⟩
  subst hc
  refine tr tbk 1 (.mk ?_)
  obtain ⟨x19, e19, h0⟩ := bind_e h0
  refine rst rfl rfl rfl (yv_nilCheck rfl rfl (.pt rfl rfl (ix_get' e19 (GEnt.av_eq _)))) ?_
  refine rst rfl rfl rfl (yv_fieldAddr rfl fo42_3 rfl (.pt rfl rfl (ix_get' e19 (GEnt.av_eq _))) (.pt _ _ _ _ _)) ?_
  obtain ⟨x20, e20, h0⟩ := bnd_e h0
  have fx20 := ix_set e19 e20; have lx20 := len_setV e20 (rfl : a1.Ents.length = a1.Ents.length)
  refine rsstore rfl rfl (yl_ob (ob' := (⟨42, 8, true, true, w1_1, x20.map GEnt.av⟩ : AObj)) (yl_store rfl sh23 rfl rfl rfl rfl rfl (ix_get' e19 (GEnt.av_eq _)) rfl rfl rfl) (ob_eq (map_setR e20 (GEnt.av_eq _)))) ?_
  refine tr tbk 5 (.mk ?_)
  refine sS ⟨32, 10, true, true, v5, [[int a1.Master.Entities, int a1.Master.Periods, lst 1 fI a1.Master.Weights, lst 1 (fL 1 fI) a1.Master.Methods, lst 1 (fL 1 fI) a1.Master.Costs, .sl 4 w1_1 0 a1.Ents.length, lst 8 GReceipt.av a1.Receipts, lst 9 GSale.av a1.Sales, lst 6 GTransit.av a1.Transits, int a1.Done]]⟩ sh32 ?_
  refine tr tbk 2 (.mk ?_)
  obtain rfl := nxt_e h0
  refine w_ret (hret _ _ _ (.cell rfl (.pt rfl rfl rfl) sh32 rfl (.tmp rfl .nil)) (fun _ _ h => h) ?_)
  exact CvL.tup (.cons (CvL.agg (.cons (.refl _) (.cons (.refl _) (.cons (.refl _) (.cons (.refl _) (.cons (.refl _) (.cons (cv_lst rfl rfl rfl rfl rfl (Eq.symm lx20)) (.cons (.refl _) (.cons (.refl _) (.cons (.refl _) (.cons (.refl _) .nil))))))))))) (.cons (.refl _) .nil))
  replace h0 := ct h0
  refine tc tbk 5 (.mk ?_)
  refine sS ⟨32, 10, true, true, v5, [[int a1.Master.Entities, int a1.Master.Periods, lst 1 fI a1.Master.Weights, lst 1 (fL 1 fI) a1.Master.Methods, lst 1 (fL 1 fI) a1.Master.Costs, lst 8 GEnt.av a1.Ents, lst 8 GReceipt.av a1.Receipts, lst 9 GSale.av a1.Sales, lst 6 GTransit.av a1.Transits, int a1.Done]]⟩ sh32 ?_
  refine tr tbk 2 (.mk ?_)
  obtain rfl := nxt_e h0
  refine w_ret (hret _ _ _ (.cell rfl (.pt rfl rfl rfl) sh32 rfl (.tmp rfl .nil)) (fun _ _ h => h) ?_)
  exact .refl _
  replace h0 := ct h0
  refine tc tbk 5 (.mk ?_)
  refine sS ⟨32, 10, true, true, v5, [[int a1.Master.Entities, int a1.Master.Periods, lst 1 fI a1.Master.Weights, lst 1 (fL 1 fI) a1.Master.Methods, lst 1 (fL 1 fI) a1.Master.Costs, lst 8 GEnt.av a1.Ents, lst 8 GReceipt.av a1.Receipts, lst 9 GSale.av a1.Sales, lst 6 GTransit.av a1.Transits, int a1.Done]]⟩ sh32 ?_
  refine tr tbk 2 (.mk ?_)
  obtain rfl := nxt_e h0
  refine w_ret (hret _ _ _ (.cell rfl (.pt rfl rfl rfl) sh32 rfl (.tmp rfl .nil)) (fun _ _ h => h) ?_)
  exact .refl _
  replace h0 := ct h0
  refine tc tbk 4 (.mk ?_)
  refine sS ⟨32, 10, true, true, v5, [[int a1.Master.Entities, int a1.Master.Periods, lst 1 fI a1.Master.Weights, lst 1 (fL 1 fI) a1.Master.Methods, lst 1 (fL 1 fI) a1.Master.Costs, lst 8 GEnt.av a1.Ents, lst 8 GReceipt.av a1.Receipts, lst 9 GSale.av a1.Sales, lst 6 GTransit.av a1.Transits, int a1.Done]]⟩ sh32 ?_
  refine tr tbk 2 (.mk ?_)
  obtain rfl := nxt_e h0
  refine w_ret (hret _ _ _ (.cell rfl (.pt rfl rfl rfl) sh32 rfl (.tmp rfl .nil)) (fun _ _ h => h) ?_)
  exact .refl _
def d_stock_in (a1 : Int) (a2 : Int) (a3 : Int) : Option (Bool) :=
(show Option (Bool) from
bnd (decide (a1 ≥ a2)) fun x5 =>
cond x5 (bnd (decide (a1 ≤ a3)) fun x6 =>
some (x6 : Bool)) (some (false : Bool))).bind <| fun y0_1 =>
some ((y0_1 : Bool))
theorem d_stock_in_c {a1 : Int} {a2 : Int} {a3 : Int} {r : Bool} (h0 : d_stock_in a1 a2 a3 = some r) : PP Tryz.prog 112 [int a1, int a2, int a3] (fun y => y = boo r) := by
  unfold d_stock_in at h0
  refine pp_of_pc (R0 := fun y H => Cv (frzH H) y (boo r)) ?_ (fun y H hc => ⟨_, rfl, pvB r, hc⟩)
  refine pcw (c := _) Tryz.func112 rfl rfl ?_; intro Q hret hnorm
  refine tc tbk 5 (.mk ?_)
  refine jn h0 [] [] (fun (a : Bool) (k : Unit) => [(6, boo a)]) (fun a k => []) ⟨fun j4 h1 => ?_, ?_⟩
  refine tc tbk 3 (.mk ?_)
  refine nb tbk h1 fun x5 h1 => ?_
  refine tr tbk 1 (.mk ?_)
  cases x5
  replace h1 := cf h1
  refine tr tbk 6 (.mk ?_)
  exact lf h1 () leA
  replace h1 := ct h1
  refine tr tbk 2 (.mk ?_)
  refine nb tbk h1 fun x6 h1 => ?_
  refine tr tbk 3 (.mk ?_)
  exact lf h1 () leA
  rintro y0_1 _ h0
  obtain rfl := nxt_e h0
  refine w_ret (hret _ _ _ (.tmp rfl .nil) (fun _ _ h => h) ?_)
  exact .refl _
def d_stock_place (a1 : GState) (a2 : Int) (a3 : Int) (a4 : Int) : Option (Int) :=
(show Option (Bool) from
(d_stock_is a1 a2 a3).bind fun x7 =>
bnd (!x7) fun x8 =>
cond x8 (some (true : Bool)) ((d_stock_in a4 0 1).bind fun x9 =>
bnd (!x9) fun x10 =>
some (x10 : Bool))).bind <| fun y0_1 =>
cond y0_1 (some (((-1) : Int))) (bnd (w64 (a3 * 2)) fun x11 =>
bnd (w64 (x11 + a4)) fun x12 =>
some ((x12 : Int)))
theorem d_stock_place_c {a1 : GState} {a2 : Int} {a3 : Int} {a4 : Int} {r : Int} (h0 : d_stock_place a1 a2 a3 a4 = some r) : PP Tryz.prog 72 [.agg (GState.av a1), int a2, int a3, int a4] (fun y => y = int r) := by
  unfold d_stock_place at h0
  refine pp_of_pc (R0 := fun y H => Cv (frzH H) y (int r)) ?_ (fun y H hc => ⟨_, rfl, pvI r, hc⟩)
  refine pcw (c := _) Tryz.func72 rfl rfl ?_; intro Q hret hnorm
  refine tc tbk 2 (.mk ?_)
  refine rse rfl rfl rfl (yl_box 1 .any rfl rfl rfl) ?_; rintro _ _ ⟨v5, -, rfl, rfl⟩
  refine tr tbk 4 (.mk ?_)
  refine jn h0 [2, 3, 8] [] (fun (a : Bool) (k : Unit) => [(18, boo a)]) (fun a k => []) ⟨fun j6 h1 => ?_, ?_⟩
  refine tc tbk 4 (.mk ?_)
  obtain ⟨x7, e7, h1⟩ := bind_e h1
  refine rst rfl rfl rfl (yv_callP rfl rfl (.cons rfl (.cons rfl (.cons rfl .nil))) cal71 (CvL.refl _) (d_stock_is_c e7)) ?_
  refine nb tbk h1 fun x8 h1 => ?_
  refine tr tbk 1 (.mk ?_)
  cases x8
  replace h1 := cf h1
  refine tr tbk 1 (.mk ?_)
  obtain ⟨x9, e9, h1⟩ := bind_e h1
  refine rst rfl rfl rfl (yv_callP rfl rfl (.cons rfl (.cons rfl (.cons rfl .nil))) cal112 (CvL.refl _) (d_stock_in_c e9)) ?_
  refine nb tbk h1 fun x10 h1 => ?_
  refine tr tbk 2 (.mk ?_)
  exact lf h1 () leA
  replace h1 := ct h1
  refine tr tbk 5 (.mk ?_)
  exact lf h1 () leA
  rintro y0_1 _ h0
  cases y0_1
  replace h0 := cf h0
  refine tc tbk 5 (.mk ?_)
  refine ni tbk h0 fun x11 h0 => ?_
  refine tr tbk 1 (.mk ?_)
  refine ni tbk h0 fun x12 h0 => ?_
  refine tr tbk 2 (.mk ?_)
  obtain rfl := nxt_e h0
  refine w_ret (hret _ _ _ (.tmp rfl .nil) (fun _ _ h => h) ?_)
  exact .refl _
  replace h0 := ct h0
  refine tc tbk 5 (.mk ?_)
  obtain rfl := nxt_e h0
  refine w_ret (hret _ _ _ (.tmp rfl .nil) (fun _ _ h => h) ?_)
  exact .refl _
def d_pool_with (a1 : GPool) (a2 : List GLayer) : Option (GPool) :=
some (((⟨a2, a1.Pend⟩ : GPool) : GPool))
theorem d_pool_with_c {a1 : GPool} {a2 : List GLayer} {r : GPool} (h0 : d_pool_with a1 a2 = some r) : PP Tryz.prog 145 [.agg (GPool.av a1), lst 3 GLayer.av a2] (fun y => y = .agg (GPool.av r)) := by
  unfold d_pool_with at h0
  refine pp_of_pc (R0 := fun y H => Cv (frzH H) y (.agg (GPool.av r))) ?_ (fun y H hc => ⟨_, rfl, (fun (a : GPool) => PV.agg (GPool.pvc a)) r, hc⟩)
  refine pcw (c := _) Tryz.func145 rfl rfl ?_; intro Q hret hnorm
  refine tc tbk 2 (.mk ?_)
  refine rse rfl rfl rfl (yl_box 1 .any rfl rfl rfl) ?_; rintro _ _ ⟨v3, -, rfl, rfl⟩
  refine rse rfl rfl rfl (yl_alloc 2 .any rfl z69 rfl) ?_; rintro _ _ ⟨v4, -, rfl, rfl⟩
  refine tr tbk 5 (.mk ?_)
  refine sS ⟨69, 4, true, true, v3, [[lst 3 GLayer.av a2, int a1.Pend.a0, int a1.Pend.a1, int a1.Pend.a2]]⟩ sh66 ?_
  refine tr tbk 4 (.mk ?_)
  refine sS ⟨69, 4, true, true, v4, [[lst 3 GLayer.av a2, int a1.Pend.a0, int a1.Pend.a1, int a1.Pend.a2]]⟩ sh69 ?_
  refine tr tbk 1 (.mk ?_)
  obtain rfl := nxt_e h0
  refine w_ret (hret _ _ _ (.cell rfl (.pt rfl rfl rfl) sh69 rfl .nil) (fun _ _ h => h) ?_)
  exact .refl _
def d_pool_own (a1 : GPool) : Option (GPool) :=
asrt (a1.Layers.length ≤ 68719476736) <|
(show Option ((Unit)) from
some ()).bind <| fun _ =>
some ((a1 : GPool))
theorem d_pool_own_c {a1 : GPool} {r : GPool} (h0 : d_pool_own a1 = some r) : PP Tryz.prog 114 [.agg (GPool.av a1)] (fun y => y = .agg (GPool.av r)) := by
  unfold d_pool_own at h0
  refine pp_of_pc (R0 := fun y H => Cv (frzH H) y (.agg (GPool.av r))) ?_ (fun y H hc => ⟨_, rfl, (fun (a : GPool) => PV.agg (GPool.pvc a)) r, hc⟩)
  refine pcw (c := _) Tryz.func114 rfl rfl ?_; intro Q hret hnorm
  refine tc tbk 2 (.mk ?_)
  refine rse rfl rfl rfl (yl_box 1 .any rfl rfl rfl) ?_; rintro _ _ ⟨v2, -, rfl, rfl⟩
  refine rse rfl rfl rfl (yl_alloc 2 .any rfl z69 rfl) ?_; rintro _ _ ⟨v3, -, rfl, rfl⟩
  refine tr tbk 2 (.mk ?_)
  refine c_drawE [0, 0, 2, 6, 15, 31] (rl [(0, [1]), (1, [1]), (2, [1])] []) (rl [(4, []), (5, [])] [1]) (rl [(3, false), (4, false), (5, false)] true) [0, 1, 2, 3, 4, 5] mixed (by kernel_rfl) ?_; intro K hK
  refine eL sh69 ?_
  refine eF fo69_0 ?_
  refine eL sh66 ?_
  obtain ⟨p4, h0⟩ := asrt_e h0
  refine de_eff rfl rfl rfl rfl (yl_call rfl rfl (.cons rfl .nil) cal144 (pc_cv (clone144_c (id := 3) (l := a1.Layers) rfl p4) (.cons (.refl _) .nil))) (by rintro _ _ ⟨v5, rfl, rfl⟩; exact ⟨rfl, trivial⟩) ?_; rintro _ _ ⟨v5, rfl, rfl⟩
  obtain ⟨j6, h1, h0⟩ := bind_e h0
  refine de_eff (Out := fun y H' => (∃ (a : Unit) (k : Unit), a = j6 ∧ y = .agg [.sl 3 v5 0 a1.Layers.length, int a1.Pend.a0, int a1.Pend.a1, int a1.Pend.a2] ∧ H' = hk [(1, ⟨69, 4, true, true, v2, [[lst 3 GLayer.av a1.Layers, int a1.Pend.a0, int a1.Pend.a1, int a1.Pend.a2]]⟩), (2, ⟨69, 4, true, true, v3, [[.sc (.slice none 0 0), int 0, int 0, int 0]]⟩), (3, ⟨46, 3, true, true, v5, a1.Layers.map GLayer.av⟩)])) rfl rfl rfl rfl (yl_call rfl rfl (.cons rfl (.cons rfl .nil)) cal145 ?_) (by rintro y _ ⟨_, _, rfl, hc, rfl⟩ <;> exact trivial) ?_
  refine pcw (c := _) Tryz.func145 rfl rfl ?_; intro Q hret hnorm
  refine tc tbk 2 (.mk ?_)
  refine rse rfl rfl rfl (yl_box 4 .any rfl rfl rfl) ?_; rintro _ _ ⟨v7, -, rfl, rfl⟩
  refine rse rfl rfl rfl (yl_alloc 5 .any rfl z69 rfl) ?_; rintro _ _ ⟨v8, -, rfl, rfl⟩
  refine tr tbk 5 (.mk ?_)
  refine sS ⟨69, 4, true, true, v7, [[.sl 3 v5 0 a1.Layers.length, int a1.Pend.a0, int a1.Pend.a1, int a1.Pend.a2]]⟩ sh66 ?_
  refine tr tbk 4 (.mk ?_)
  refine sS ⟨69, 4, true, true, v8, [[.sl 3 v5 0 a1.Layers.length, int a1.Pend.a0, int a1.Pend.a1, int a1.Pend.a2]]⟩ sh69 ?_
  refine tr tbk 1 (.mk ?_)
  obtain rfl := nxt_e h1
  refine w_ret (hret _ _ (hk [(1, ⟨69, 4, true, true, v2, [[lst 3 GLayer.av a1.Layers, int a1.Pend.a0, int a1.Pend.a1, int a1.Pend.a2]]⟩), (2, ⟨69, 4, true, true, v3, [[.sc (.slice none 0 0), int 0, int 0, int 0]]⟩), (3, ⟨46, 3, true, true, v5, a1.Layers.map GLayer.av⟩)]) (.cell rfl (.pt rfl rfl rfl) sh69 rfl .nil) (HK.le ⟨rfl, rfl, rfl, trivial⟩) ?_)
  exact ⟨(), (), rfl, rfl, rfl⟩
  rintro y _ ⟨_, _, rfl, hc, rfl⟩
  subst hc
  refine de_eff0 rfl rfl rfl rfl (Yield.weak (yl_ob (ob' := (⟨69, 4, true, true, v3, [[.sl 3 v5 0 a1.Layers.length, int a1.Pend.a0, int a1.Pend.a1, int a1.Pend.a2]]⟩ : AObj)) (yl_store rfl sh69 rfl rfl rfl rfl rfl rfl rfl rfl rfl) rfl) (fun _ h => h) (fun _ _ => trivial)) (by rintro _ _ ⟨rfl, rfl⟩; exact trivial) ?_; rintro _ _ ⟨rfl, rfl⟩
  refine de_nil (hK _ ?_)
  obtain rfl := nxt_e h0
  refine w_ret (hret _ _ _ (.cell rfl (.pt rfl rfl rfl) sh69 rfl .nil) (fun _ _ h => h) ?_)
  exact (CvL.agg (.cons (cv_lst rfl rfl rfl rfl rfl (Eq.symm rfl)) (.cons (.refl _) (.cons (.refl _) (.cons (.refl _) .nil)))))
def d_stdcost_rate_fits (a1 : Int) : Option (Bool) :=
(show Option (Bool) from
bnd (decide (a1 ≥ 0)) fun x3 =>
cond x3 (bnd (decide (a1 ≤ 1073741824)) fun x4 =>
some (x4 : Bool)) (some (false : Bool))).bind <| fun y0_1 =>
some ((y0_1 : Bool))
theorem d_stdcost_rate_fits_c {a1 : Int} {r : Bool} (h0 : d_stdcost_rate_fits a1 = some r) : PP Tryz.prog 207 [int a1] (fun y => y = boo r) := by
  unfold d_stdcost_rate_fits at h0
  refine pp_of_pc (R0 := fun y H => Cv (frzH H) y (boo r)) ?_ (fun y H hc => ⟨_, rfl, pvB r, hc⟩)
  refine pcw (c := _) Tryz.func207 rfl rfl ?_; intro Q hret hnorm
  refine tc tbk 5 (.mk ?_)
  refine jn h0 [] [] (fun (a : Bool) (k : Unit) => [(2, boo a)]) (fun a k => []) ⟨fun j2 h1 => ?_, ?_⟩
  refine tc tbk 2 (.mk ?_)
  refine nb tbk h1 fun x3 h1 => ?_
  refine tr tbk 1 (.mk ?_)
  cases x3
  replace h1 := cf h1
  refine tr tbk 5 (.mk ?_)
  exact lf h1 () leA
  replace h1 := ct h1
  refine tr tbk 1 (.mk ?_)
  refine nb tbk h1 fun x4 h1 => ?_
  refine tr tbk 3 (.mk ?_)
  exact lf h1 () leA
  rintro y0_1 _ h0
  obtain rfl := nxt_e h0
  refine w_ret (hret _ _ _ (.tmp rfl .nil) (fun _ _ h => h) ?_)
  exact .refl _
def d_fifo_has_L0 (a1 : List GLayer) : Nat → Int → Int → Option ((Unit) ⊕ (Bool))
  | 0, _, _ => none
  | n + 1, y0_1, y0_2 =>
    bnd (decide (y0_2 < (a1.length : Int))) fun x4 =>
    cond x4 ((ix a1 y0_2).bind fun x5 =>
    bnd (if 0 > x5.Qty then 0 else x5.Qty) fun x7 =>
    bnd (if y0_1 < x7 then y0_1 else x7) fun x8 =>
    bnd (w64 (y0_1 - x8)) fun x9 =>
    bnd (decide (x9 = 0)) fun x10 =>
    cond x10 (esc (some ((true : Bool)))) (bnd (w64 (y0_2 + 1)) fun x11 =>
    d_fifo_has_L0 a1 n (x9 : Int) (x11 : Int))) (brk ())
def d_fifo_has (n : Nat) (a1 : List GLayer) (a2 : Int) : Option (Bool) :=
(show Option ((Unit) ⊕ (Bool)) from
d_fifo_has_L0 a1 n (a2 : Int) (0 : Int)).bind <| sel <| fun _ =>
some ((false : Bool))
theorem d_fifo_has_c {n : Nat} {a1 : List GLayer} {a2 : Int} {r : Bool} (h0 : d_fifo_has n a1 a2 = some r) : PP Tryz.prog 189 [lst 3 GLayer.av a1, int a2] (fun y => y = boo r) := by
  unfold d_fifo_has at h0
  refine pp_of_pc (R0 := fun y H => Cv (frzH H) y (boo r)) ?_ (fun y H hc => ⟨_, rfl, pvB r, hc⟩)
  refine pcw (c := _) Tryz.func189 rfl rfl ?_; intro Q hret hnorm
  refine tc tbk 8 (.mk ?_)
  refine rst rfl rfl rfl (yv_len_sl rfl Tryz.underlying66 rfl (lst_len _)) ?_
  refine tr tbk 2 (.mk ?_)
  refine jnE h0 [4] [] (fun (a : Unit) (k : Unit) => []) (fun a k => []) ⟨fun j3 h1 h0 => ?_, ?_⟩
  refine tc tbk 1 (.mk ?_)
  refine lp (fun n (a : Int × Int) => d_fifo_has_L0 a1 n a.1 a.2) ((a2 : Int), (0 : Int)) () h1 [4, 7, 8] [] (fun (a : Int × Int) (k : Unit) => [(1, int a.1), (9, int a.2)]) (fun a k => []) (fun _ => rfl) ⟨leA, ?_⟩
  rintro n ⟨y0_1, y0_2⟩ _ hm h1
  replace h1 : d_fifo_has_L0 a1 (n + 1) y0_1 y0_2 = some _ := h1
  rw [d_fifo_has_L0] at h1
  refine tc tbk 2 (.mk ?_)
  refine nb tbk h1 fun x4 h1 => ?_
  refine tr tbk 2 (.mk ?_)
  cases x4
  replace h1 := cf h1
  refine tc tbk 2 (.mk ?_)
  exact lfE h1 () leA
  replace h1 := ct h1
  refine tc tbk 6 (.mk ?_)
  obtain ⟨x5, e5, h1⟩ := bind_e h1
  refine rst rfl rfl rfl (yv_ixT rfl Tryz.underlying66 sh46 rfl rfl e5) ?_
  refine tr tbk 1 (.mk ?_)
  refine rse rfl rfl rfl (yl_alloc 1 .any rfl z46 rfl) ?_; rintro _ _ ⟨v6, -, rfl, rfl⟩
  refine sS ⟨46, 3, true, true, v6, [[int x5.Qty, int x5.Value, int x5.Profit]]⟩ sh46 ?_
  refine tr tbk 6 (.mk ?_)
  obtain ⟨x7, e7, h1⟩ := bnd_e h1
  refine rst rfl rfl rfl (yv_max rfl rfl rfl e7) ?_
  refine tr tbk 1 (.mk ?_)
  obtain ⟨x8, e8, h1⟩ := bnd_e h1
  refine rst rfl rfl rfl (yv_min rfl rfl rfl e8) ?_
  refine ni tbk h1 fun x9 h1 => ?_
  refine tr tbk 5 (.mk ?_)
  refine nb tbk h1 fun x10 h1 => ?_
  refine tr tbk 1 (.mk ?_)
  cases x10
  replace h1 := cf h1
  refine tc tbk 4 (.mk ?_)
  refine ni tbk h1 fun x11 h1 => ?_
  refine tr tbk 2 (.mk ?_)
  exact bk (x9, x11) () h1 leA
  replace h1 := ct h1
  refine tc tbk 5 (.mk ?_)
  obtain ⟨c12, hX, hj⟩ := esc_e h1; subst hj; replace h0 := hX.trans (sel_r h0)
  obtain rfl := nxt_e h0
  refine w_ret (hret _ _ _ (.tmp rfl .nil) (fun _ _ h => h) ?_)
  exact .refl _
  rintro _ _ h0
  refine tc tbk 4 (.mk ?_)
  obtain rfl := nxt_e h0
  refine w_ret (hret _ _ _ (.tmp rfl .nil) (fun _ _ h => h) ?_)
  exact .refl _
def d_stdcost_rate_of (n : Nat) (a1 : Int) (a2 : Int) : Option (Int × Int) :=
bnd (if 0 > a2 then 0 else a2) fun x3 =>
(d_money_MulDiv n x3 a1 1).bind fun x4 =>
some ((x4.1 : Int), (x4.2.2 : Int))
theorem d_stdcost_rate_of_c {n : Nat} {a1 : Int} {a2 : Int} {r : Int × Int} (h0 : d_stdcost_rate_of n a1 a2 = some r) : PP Tryz.prog 208 [int a1, int a2] (fun y => y = .tup [int r.1, int r.2]) := by
  unfold d_stdcost_rate_of at h0
  refine pp_of_pc (R0 := fun y H => Cv (frzH H) y (.tup [int r.1, int r.2])) ?_ (fun y H hc => ⟨_, rfl, .tup (pvl2 (pvI (r.1)) (pvI (r.2))), hc⟩)
  refine pcw (c := _) Tryz.func208 rfl rfl ?_; intro Q hret hnorm
  refine tc tbk 8 (.mk ?_)
  obtain ⟨x3, e3, h0⟩ := bnd_e h0
  refine rst rfl rfl rfl (yv_max rfl rfl rfl e3) ?_
  refine tr tbk 1 (.mk ?_)
  obtain ⟨x4, e4, h0⟩ := bind_e h0
  refine rst rfl rfl rfl (yv_callP rfl rfl (.cons rfl (.cons rfl (.cons rfl .nil))) cal133 (CvL.refl _) (d_money_MulDiv_c e4)) ?_
  refine tr tbk 15 (.mk ?_)
  obtain rfl := nxt_e h0
  refine w_ret (hret _ _ _ (.tmp rfl (.tmp rfl .nil)) (fun _ _ h => h) ?_)
  exact .refl _
def d_stdcost_Out_L0 : Nat → Nat → Nat → Int → (List GLayer) → GLayer → Option (Nat × Nat × (List GLayer) × GLayer)
  | 0, _, _, _, _, _ => none
  | n + 1, y1_1, y1_2, y1_3, y1_4, y1_5 =>
    (show Option (Bool) from
    bnd (decide ((y1_2 : Int) > 0)) fun x21 =>
    cond x21 (bnd (decide (y1_3 > 0)) fun x22 =>
    some (x22 : Bool)) (some (false : Bool))).bind <| fun y2_1 =>
    cond y2_1 (asrt ((0 : Int) ≤ 0 ∧ 0 < (y1_2 : Int)) <|
    (ix y1_4 (((y1_1 : Nat) : Int) + 0)).bind fun x24 =>
    bnd (decide (x24.Qty > y1_3)) fun x26 =>
    (show Option (Nat × Nat × (List GLayer) × GLayer) from
    cond x26 ((d_money_Part n x24.Value y1_3 x24.Qty).bind fun x30 =>
    (d_money_Part n x24.Profit y1_3 x24.Qty).bind fun x31 =>
    asrt ((0 : Int) ≤ 0 ∧ 0 < (y1_2 : Int)) <|
    bnd (w64 (x24.Qty - y1_3)) fun x33 =>
    asrt ((0 : Int) ≤ 0 ∧ 0 < (y1_2 : Int)) <|
    bnd (w64 (x24.Value - x30)) fun x35 =>
    asrt ((0 : Int) ≤ 0 ∧ 0 < (y1_2 : Int)) <|
    bnd (w64 (x24.Profit - x31)) fun x37 =>
    asrt ((0 : Int) ≤ 0 ∧ 0 < (y1_2 : Int)) <|
    bnd (y1_4.set (Int.toNat (((y1_1 : Nat) : Int) + 0)) ((⟨x33, x24.Value, x24.Profit⟩ : GLayer) : GLayer)) fun x39 =>
    asrt ((0 : Int) ≤ 0 ∧ 0 < (y1_2 : Int)) <|
    bnd (x39.set (Int.toNat (((y1_1 : Nat) : Int) + 0)) ((⟨((⟨x33, x24.Value, x24.Profit⟩ : GLayer) : GLayer).Qty, x35, ((⟨x33, x24.Value, x24.Profit⟩ : GLayer) : GLayer).Profit⟩ : GLayer) : GLayer)) fun x41 =>
    asrt ((0 : Int) ≤ 0 ∧ 0 < (y1_2 : Int)) <|
    bnd (x41.set (Int.toNat (((y1_1 : Nat) : Int) + 0)) ((⟨((⟨((⟨x33, x24.Value, x24.Profit⟩ : GLayer) : GLayer).Qty, x35, ((⟨x33, x24.Value, x24.Profit⟩ : GLayer) : GLayer).Profit⟩ : GLayer) : GLayer).Qty, ((⟨((⟨x33, x24.Value, x24.Profit⟩ : GLayer) : GLayer).Qty, x35, ((⟨x33, x24.Value, x24.Profit⟩ : GLayer) : GLayer).Profit⟩ : GLayer) : GLayer).Value, x37⟩ : GLayer) : GLayer)) fun x43 =>
    some ((y1_1 : Nat), (y1_2 : Nat), (x43 : List GLayer), ((⟨y1_3, x30, x31⟩ : GLayer) : GLayer))) (asrt ((0 : Int) ≤ 1 ∧ 1 ≤ (y1_2 : Int) ∧ (y1_2 : Int) ≤ (y1_2 : Int) ∧ 1 < (y1_2 + 1 : Int)) <|
    bnd (if (Int.toNat (y1_2 : Int)) = 1 then y1_1 else y1_1 + 1) fun x29 =>
    some ((x29 : Nat), (((Int.toNat (y1_2 : Int)) - 1) : Nat), (y1_4 : List GLayer), (x24 : GLayer)))).bind <| p2 fun (y3_1 : Nat) (q0 : Nat × (List GLayer) × GLayer) => (p2 fun (y3_2 : Nat) (q1 : (List GLayer) × GLayer) => (p2 fun (y3_3 : List GLayer) (y3_4 : GLayer) =>
    bnd (w64 (y1_5.Qty + y3_4.Qty)) fun x44 =>
    bnd (w64 (y1_5.Value + y3_4.Value)) fun x45 =>
    bnd (w64 (y1_5.Profit + y3_4.Profit)) fun x46 =>
    bnd (w64 (y1_3 - y3_4.Qty)) fun x47 =>
    d_stdcost_Out_L0 n (y3_1 : Nat) (y3_2 : Nat) (x47 : Int) (y3_3 : List GLayer) ((⟨x44, x45, x46⟩ : GLayer) : GLayer)) q1) q0) (some ((y1_1 : Nat), (y1_2 : Nat), (y1_4 : List GLayer), (y1_5 : GLayer)))
def d_stdcost_Out (n : Nat) (a1 : List GLayer) (a2 : Int) (a3 : Int) : Option ((List GLayer) × GLayer × Int) :=
(d_stdcost_rate_fits a3).bind fun x5 =>
bnd (!x5) fun x6 =>
cond x6 (asrt (a1.length ≤ 68719476736) <|
some ((a1 : List GLayer), ((⟨0, 0, 0⟩ : GLayer) : GLayer), (1 : Int))) ((show Option ((Nat × Nat × GLayer × Int × (List GLayer))) from
(show Option ((Unit)) from
some ()).bind <| fun _ =>
(show Option ((Nat × Nat × GLayer × Int × (List GLayer))) from
asrt (a1.length ≤ 68719476736) <|
bnd (decide (a2 < 1)) fun x15 =>
cond x15 (some ((0 : Nat), (a1.length : Nat), ((⟨0, 0, 0⟩ : GLayer) : GLayer), (1 : Int), (a1 : List GLayer))) ((d_fifo_has n a1 a2).bind fun x16 =>
bnd (!x16) fun x17 =>
cond x17 (some ((0 : Nat), (a1.length : Nat), ((⟨0, 0, 0⟩ : GLayer) : GLayer), (5 : Int), (a1 : List GLayer))) ((show Option (Nat × Nat × (List GLayer) × GLayer) from
d_stdcost_Out_L0 n (0 : Nat) (a1.length : Nat) (a2 : Int) (a1 : List GLayer) ((⟨0, 0, 0⟩ : GLayer) : GLayer)).bind <| p2 fun (y4_1 : Nat) (q0 : Nat × (List GLayer) × GLayer) => (p2 fun (y4_2 : Nat) (q1 : (List GLayer) × GLayer) => (p2 fun (y4_3 : List GLayer) (y4_4 : GLayer) =>
some ((y4_1 : Nat), (y4_2 : Nat), (y4_4 : GLayer), (0 : Int), (y4_3 : List GLayer))) q1) q0))).bind <| p2 fun (y5_2 : Nat) (q0 : Nat × GLayer × Int × (List GLayer)) => (p2 fun (y5_3 : Nat) (q1 : GLayer × Int × (List GLayer)) => (p2 fun (y5_4 : GLayer) (q2 : Int × (List GLayer)) => (p2 fun (y5_5 : Int) (y5_6 : List GLayer) =>
some ((y5_2 : Nat), (y5_3 : Nat), (y5_4 : GLayer), (y5_5 : Int), (y5_6 : List GLayer))) q2) q1) q0).bind <| p2 fun (y6_2 : Nat) (q0 : Nat × GLayer × Int × (List GLayer)) => (p2 fun (y6_3 : Nat) (q1 : GLayer × Int × (List GLayer)) => (p2 fun (y6_4 : GLayer) (q2 : Int × (List GLayer)) => (p2 fun (y6_5 : Int) (y6_6 : List GLayer) =>
(show Option (Bool) from
bnd (decide (y6_5 ≠ 0)) fun x50 =>
cond x50 (some (true : Bool)) (bnd (decide ((y6_3 : Int) = 0)) fun x51 =>
some (x51 : Bool))).bind <| fun y7_1 =>
cond y7_1 (asrt (y6_2 + y6_3 ≤ y6_6.length) <|
some (((((y6_6).drop y6_2).take y6_3) : List GLayer), (y6_4 : GLayer), (y6_5 : Int))) ((d_stdcost_rate_of n a3 a2).bind fun x52 =>
asrt ((0 : Int) ≤ 0 ∧ 0 < (y6_3 : Int)) <|
(ix y6_6 (((y6_2 : Nat) : Int) + 0)).bind fun x54 =>
bnd (w64 (x54.Value + y6_4.Value)) fun x55 =>
(show Option (Bool) from
bnd (decide (x52.2 ≠ 0)) fun x57 =>
cond x57 (some (true : Bool)) (bnd (decide (x52.1 > x55)) fun x58 =>
some (x58 : Bool))).bind <| fun y8_1 =>
(show Option (Int) from
cond y8_1 (some (x55 : Int)) (some (x52.1 : Int))).bind <| fun y9_1 =>
asrt ((0 : Int) ≤ 0 ∧ 0 < (y6_3 : Int)) <|
bnd (w64 (y6_4.Value - y9_1)) fun x61 =>
bnd (w64 (x54.Value + x61)) fun x62 =>
asrt ((0 : Int) ≤ 0 ∧ 0 < (y6_3 : Int)) <|
bnd (y6_6.set (Int.toNat (((y6_2 : Nat) : Int) + 0)) ((⟨x54.Qty, x62, x54.Profit⟩ : GLayer) : GLayer)) fun x64 =>
asrt (y6_2 + y6_3 ≤ x64.length) <|
some (((((x64).drop y6_2).take y6_3) : List GLayer), ((⟨y6_4.Qty, y9_1, y6_4.Profit⟩ : GLayer) : GLayer), (0 : Int)))) q2) q1) q0)
theorem d_stdcost_Out_c {n : Nat} {a1 : List GLayer} {a2 : Int} {a3 : Int} {r : (List GLayer) × GLayer × Int} (h0 : d_stdcost_Out n a1 a2 a3 = some r) : PP Tryz.prog 206 [lst 3 GLayer.av a1, int a2, int a3] (fun y => y = .tup [lst 3 GLayer.av r.1, .agg (GLayer.av r.2.1), int r.2.2]) := by
  unfold d_stdcost_Out at h0
  refine pp_of_pc (R0 := fun y H => Cv (frzH H) y (.tup [lst 3 GLayer.av r.1, .agg (GLayer.av r.2.1), int r.2.2])) ?_ (fun y H hc => ⟨_, rfl, .tup (pvl3 ((pvLs GLayer.pvc) (r.1)) ((fun (a : GLayer) => PV.agg (GLayer.pvc a)) (r.2.1)) (pvI (r.2.2))), hc⟩)
  refine pcw (c := _) Tryz.func206 rfl rfl ?_; intro Q hret hnorm
  refine tc tbk 3 (.mk ?_)
  refine rse rfl rfl rfl (yl_alloc 1 .any rfl z46 rfl) ?_; rintro _ _ ⟨v4, -, rfl, rfl⟩
  refine tr tbk 6 (.mk ?_)
  obtain ⟨x5, e5, h0⟩ := bind_e h0
  refine rst rfl rfl rfl (yv_callP rfl rfl (.cons rfl .nil) cal207 (CvL.refl _) (d_stdcost_rate_fits_c e5)) ?_
  refine nb tbk h0 fun x6 h0 => ?_
  refine tr tbk 1 (.mk ?_)
  cases x6
  replace h0 := cf h0
  refine tc tbk 6 (.mk ?_)
  obtain ⟨j7, h1, h0⟩ := bind_e h0
  refine rse (Out := fun y H' => (∃ (a : Nat × Nat × GLayer × Int × (List GLayer)) (k : Nat), a = j7 ∧ y = .tup [.sl 6 k a.1 a.2.1, .agg [int a.2.2.1.Qty, int a.2.2.1.Value, int a.2.2.1.Profit], int a.2.2.2.1] ∧ H' = hk [(1, ⟨46, 3, true, true, v4, [[int 0, int 0, int 0]]⟩), (6, ⟨46, 3, true, true, k, a.2.2.2.2.map GLayer.av⟩)])) rfl rfl rfl (yl_call rfl rfl (.cons rfl (.cons rfl .nil)) cal197 ?_) ?_
  refine pcw (c := _) Tryz.func197 rfl rfl ?_; intro Q hret hnorm
  refine tc tbk 3 (.mk ?_)
  refine rse rfl rfl rfl (yl_alloc 3 .any rfl z46 rfl) ?_; rintro _ _ ⟨v8, -, rfl, rfl⟩
  refine tr tbk 4 (.mk ?_)
  obtain ⟨j9, h2, h1⟩ := bind_e h1
  refine rse (Out := fun y H' => (∃ (a : Unit) (k : Unit), a = j9 ∧ y = .agg [.fn (.func 186) [] [], .fn (.func 187) [] [], .fn (.func 115) [] []] ∧ H' = hk [(1, ⟨46, 3, true, true, v4, [[int 0, int 0, int 0]]⟩), (3, ⟨46, 3, true, true, v8, [[int 0, int 0, int 0]]⟩)])) rfl rfl rfl (yl_call rfl rfl .nil cal198 ?_) ?_
  refine pcw (c := _) Tryz.func198 rfl rfl ?_; intro Q hret hnorm
  refine tc tbk 2 (.mk ?_)
  refine rse rfl rfl rfl (yl_alloc 4 .any rfl z235 rfl) ?_; rintro _ _ ⟨v10, -, rfl, rfl⟩
  refine tr tbk 4 (.mk ?_)
  refine sS ⟨235, 3, true, true, v10, [[.fn (.func 186) [] [], .fn (.func 187) [] [], .fn (.func 115) [] []]]⟩ sh235 ?_
  refine tr tbk 1 (.mk ?_)
  obtain rfl := nxt_e h2
  refine w_ret (hret _ _ (hk [(1, ⟨46, 3, true, true, v4, [[int 0, int 0, int 0]]⟩), (3, ⟨46, 3, true, true, v8, [[int 0, int 0, int 0]]⟩)]) (.cell rfl (.pt rfl rfl rfl) sh235 rfl .nil) (HK.le ⟨rfl, rfl, trivial⟩) ?_)
  exact ⟨(), (), rfl, rfl, rfl⟩
  rintro y _ ⟨_, _, rfl, hc, rfl⟩
  subst hc
  refine tr tbk 3 (.mk ?_)
  obtain ⟨j11, h2, h1⟩ := bind_e h1
  refine rse (Out := fun y H' => (∃ (a : Nat × Nat × GLayer × Int × (List GLayer)) (k : Nat), a = j11 ∧ y = .tup [.sl 6 k a.1 a.2.1, .agg [int a.2.2.1.Qty, int a.2.2.1.Value, int a.2.2.1.Profit], int a.2.2.2.1] ∧ H' = hk [(1, ⟨46, 3, true, true, v4, [[int 0, int 0, int 0]]⟩), (3, ⟨46, 3, true, true, v8, [[int 0, int 0, int 0]]⟩), (6, ⟨46, 3, true, true, k, a.2.2.2.2.map GLayer.av⟩)])) rfl rfl rfl (yl_call rfl rfl (.cons rfl (.cons rfl .nil)) cal187 ?_) ?_
  refine pcw (c := _) Tryz.func187 rfl rfl ?_; intro Q hret hnorm
  refine tc tbk 3 (.mk ?_)
  refine rse rfl rfl rfl (yl_alloc 5 .any rfl z46 rfl) ?_; rintro _ _ ⟨v12, -, rfl, rfl⟩
  refine tr tbk 5 (.mk ?_)
  obtain ⟨p13, h2⟩ := asrt_e h2
  refine rse rfl rfl rfl (yl_call rfl rfl (.cons rfl .nil) cal144 (pc_cv (clone144_c (id := 6) (l := a1) rfl p13) (.cons (.refl _) .nil))) ?_; rintro _ _ ⟨v14, rfl, rfl⟩
  refine tr tbk 6 (.mk ?_)
  refine nb tbk h2 fun x15 h2 => ?_
  refine tr tbk 1 (.mk ?_)
  cases x15
  replace h2 := cf h2
  refine tc tbk 7 (.mk ?_)
  obtain ⟨x16, e16, h2⟩ := bind_e h2
  refine rst rfl rfl rfl (yv_callT (v := boo x16) rfl rfl (.cons rfl (.cons rfl .nil)) cal189 (.cons (cv_lst rfl rfl rfl rfl rfl (Eq.symm rfl)) (.cons (.refl _) .nil)) (d_fifo_has_c e16) rfl) ?_
  refine nb tbk h2 fun x17 h2 => ?_
  refine tr tbk 1 (.mk ?_)
  cases x17
  replace h2 := cf h2
  refine tc tbk 4 (.mk ?_)
  refine rse rfl rfl rfl (yl_alloc 7 .any rfl z46 rfl) ?_; rintro _ _ ⟨v18, -, rfl, rfl⟩
  refine tr tbk 2 (.mk ?_)
  refine jn h2 [4, 5, 6, 7] [1, 3, 5] (fun (a : Nat × Nat × (List GLayer) × GLayer) (k : Unit) => [(0, .sl 6 v14 a.1 a.2.1)]) (fun a k => [(6, ⟨46, 3, true, true, v14, a.2.2.1.map GLayer.av⟩), (7, ⟨46, 3, true, true, v18, [[int a.2.2.2.Qty, int a.2.2.2.Value, int a.2.2.2.Profit]]⟩)]) ⟨fun j19 h3 => ?_, ?_⟩
  refine tc tbk 1 (.mk ?_)
  refine lp (fun n (a : Nat × Nat × Int × (List GLayer) × GLayer) => d_stdcost_Out_L0 n a.1 a.2.1 a.2.2.1 a.2.2.2.1 a.2.2.2.2) ((0 : Nat), (a1.length : Nat), (a2 : Int), (a1 : List GLayer), ((⟨0, 0, 0⟩ : GLayer) : GLayer)) () h3 [4, 5, 6, 7] [1, 3, 5] (fun (a : Nat × Nat × Int × (List GLayer) × GLayer) (k : Unit) => [(0, .sl 6 v14 a.1 a.2.1), (1, int a.2.2.1)]) (fun a k => [(6, ⟨46, 3, true, true, v14, a.2.2.2.1.map GLayer.av⟩), (7, ⟨46, 3, true, true, v18, [[int a.2.2.2.2.Qty, int a.2.2.2.2.Value, int a.2.2.2.2.Profit]]⟩)]) (fun _ => rfl) ⟨leA, ?_⟩
  rintro n ⟨y1_1, y1_2, y1_3, y1_4, y1_5⟩ _ hm h3
  replace h3 : d_stdcost_Out_L0 (n + 1) y1_1 y1_2 y1_3 y1_4 y1_5 = some _ := h3
  rw [d_stdcost_Out_L0] at h3
  refine tc tbk 2 (.mk ?_)
  refine jn h3 [0, 1, 4, 5, 6, 7] [1, 3, 5, 6, 7] (fun (a : Bool) (k : Unit) => [(27, boo a)]) (fun a k => []) ⟨fun j20 h4 => ?_, ?_⟩
  refine tc tbk 2 (.mk ?_)
  refine rst rfl rfl rfl (yv_len_sl rfl Tryz.underlying66 rfl (.sl rfl rfl)) ?_
  refine nb tbk h4 fun x21 h4 => ?_
  refine tr tbk 1 (.mk ?_)
  cases x21
  replace h4 := cf h4
  refine tr tbk 4 (.mk ?_)
  exact lf h4 () leA
  replace h4 := ct h4
  refine tr tbk 1 (.mk ?_)
  refine nb tbk h4 fun x22 h4 => ?_
  refine tr tbk 2 (.mk ?_)
  exact lf h4 () leA
  rintro y2_1 _ h3
  cases y2_1
  replace h3 := cf h3
  refine tc tbk 2 (.mk ?_)
  exact lf h3 () leA
  replace h3 := ct h3
  refine tc tbk 6 (.mk ?_)
  obtain ⟨p23, h3⟩ := asrt_e h3
  obtain ⟨x24, e24, h3⟩ := bind_e h3
  refine rst rfl rfl rfl (yv_ixW rfl Tryz.underlying66 sh46 rfl rfl rfl rfl rfl p23 (List.length_map _) e24) ?_
  refine rst rfl rfl rfl (yv_load rfl sh46 rfl (.pt rfl rfl (ix_get e24)) rfl) ?_
  refine rse rfl rfl rfl (yl_alloc 8 .any rfl z46 rfl) ?_; rintro _ _ ⟨v25, -, rfl, rfl⟩
  refine sS ⟨46, 3, true, true, v25, [[int x24.Qty, int x24.Value, int x24.Profit]]⟩ sh46 ?_
  refine tr tbk 7 (.mk ?_)
  refine nb tbk h3 fun x26 h3 => ?_
  refine tr tbk 1 (.mk ?_)
  refine jn h3 [1, 4, 5, 6, 7, 8] [1, 3, 5, 7] (fun (a : Nat × Nat × (List GLayer) × GLayer) (k : Unit) => [(0, .sl 6 v14 a.1 a.2.1)]) (fun a k => [(6, ⟨46, 3, true, true, v14, a.2.2.1.map GLayer.av⟩), (8, ⟨46, 3, true, true, v25, [[int a.2.2.2.Qty, int a.2.2.2.Value, int a.2.2.2.Profit]]⟩)]) ⟨fun j27 h4 => ?_, ?_⟩
  cases x26
  replace h4 := cf h4
  refine tc tbk 4 (.mk ?_)
  refine rst rfl rfl rfl (yv_len_sl rfl Tryz.underlying66 rfl (.sl rfl rfl)) ?_
  refine tr tbk 1 (.mk ?_)
  refine rst rfl rfl rfl (yv_len_sl rfl Tryz.underlying66 rfl (.sl rfl rfl)) ?_
  obtain ⟨p28, h4⟩ := asrt_e h4
  obtain ⟨x29, e29, h4⟩ := bnd_e h4
  refine rst rfl rfl rfl (yv_slO3 (len := y1_2) (i := 1) (j := (Int.toNat (y1_2 : Int))) rfl Tryz.underlying66 sh46 rfl rfl rfl rfl (.yes rfl (by first | omega | (dsimp only; omega) | (dsimp only at *; omega))) (.yes rfl (by first | omega | (dsimp only; omega) | (dsimp only at *; omega))) (.yes rfl (by first | omega | (dsimp only; omega) | (dsimp only at *; omega))) (by first | omega | (dsimp only; omega) | (dsimp only at *; omega)) (by first | omega | (dsimp only; omega) | (dsimp only at *; omega)) e29) ?_
  refine tr tbk 2 (.mk ?_)
  exact lf h4 () leA
  replace h4 := ct h4
  refine tc tbk 2 (.mk ?_)
  refine c_drawE [0, 0, 2, 0, 0, 16, 62, 0, 128, 0, 0, 1024, 4094, 8191, 16383] (rl [(1, [8]), (2, [8]), (4, [8]), (5, [8]), (7, [8]), (8, [8]), (10, [8]), (11, [8])] []) (rl [(14, [])] [8]) (rl [(14, false)] true) [0, 1, 2, 3, 4, 5, 6, 7, 8, 9, 10, 11, 12, 13, 14] mixed (by kernel_rfl) ?_; intro K hK
  refine eM ?_
  refine eF fo46_1 ?_
  refine eL sh3 ?_
  refine eM ?_
  refine eF fo46_0 ?_
  refine eL sh3 ?_
  obtain ⟨x30, e30, h4⟩ := bind_e h4
  refine eP (fun H hH => yv_callP rfl rfl (.cons rfl (.cons rfl (.cons rfl .nil))) cal91 (CvL.refl _) (d_money_Part_c e30)) ?_
  refine eF fo46_2 ?_
  refine eL sh3 ?_
  refine eM ?_
  refine eF fo46_0 ?_
  refine eL sh3 ?_
  obtain ⟨x31, e31, h4⟩ := bind_e h4
  refine eP (fun H hH => yv_callP rfl rfl (.cons rfl (.cons rfl (.cons rfl .nil))) cal91 (CvL.refl _) (d_money_Part_c e31)) ?_
  refine eP (fun H hH => yv_build (cs := [int y1_3, int x30, int x31]) (ps := [(0, _), (1, _), (2, _)]) rfl pl46 z46 rfl (.cons rfl (.cons rfl (.cons rfl .nil))) (by kernel_rfl)) ?_
  refine de_eff0 rfl rfl rfl rfl (Yield.weak (yl_ob (ob' := (⟨46, 3, true, true, v25, [[int y1_3, int x30, int x31]]⟩ : AObj)) (yl_store rfl sh46 rfl rfl rfl rfl rfl rfl rfl rfl rfl) rfl) (fun _ h => h) (fun _ _ => trivial)) (by rintro _ _ ⟨rfl, rfl⟩; exact trivial) ?_; rintro _ _ ⟨rfl, rfl⟩
  refine de_nil (hK _ ?_)
  refine c_drawE [0, 0, 0, 0, 8, 24, 56, 0, 128, 504, 0, 1024, 3072, 7168, 0, 16384, 64512, 0, 131072, 393216, 917504, 0, 2097152, 8257536, 1982457, 18759673, 52314105, 119537659, 253755387, 522190843, 1073741823, 2147483647, 4294967295] (rl [(4, [6]), (5, [6]), (6, [6]), (7, [8]), (8, [8]), (11, [6]), (12, [6]), (13, [6]), (14, [8]), (15, [8]), (18, [6]), (19, [6]), (20, [6]), (21, [8]), (22, [8]), (24, [6]), (25, [6]), (27, [6]), (28, [6]), (30, [6]), (31, [6])] []) (rl [(26, [8]), (29, [8]), (32, [])] [6, 8]) (rl [(26, false), (29, false), (32, false)] true) [0, 1, 2, 3, 4, 5, 6, 7, 8, 9, 10, 11, 12, 13, 14, 15, 16, 17, 18, 19, 20, 21, 22, 23, 24, 25, 26, 27, 28, 29, 30, 31, 32] mixed (by kernel_rfl) ?_; intro K hK
  iterate 4 refine eM ?_
  obtain ⟨p32, h4⟩ := asrt_e h4
  refine de_pure rfl rfl rfl rfl (fun H hH => yv_ixW rfl Tryz.underlying66 sh46 rfl rfl ((hH _ (by decide)).trans rfl) rfl rfl p32 (List.length_map _) e24) ?_
  refine eF fo46_0 (hr := ix_get e24) ?_
  refine eL sh3 (hr := ix_get e24) ?_
  refine eF fo46_0 ?_
  refine eL sh3 ?_
  obtain ⟨x33, e33, h4⟩ := bnd_e h4
  refine eP (fun H hH => yv_sub rfl rfl rfl e33) ?_
  refine eM ?_
  obtain ⟨p34, h4⟩ := asrt_e h4
  refine de_pure rfl rfl rfl rfl (fun H hH => yv_ixW rfl Tryz.underlying66 sh46 rfl rfl ((hH _ (by decide)).trans rfl) rfl rfl p34 (List.length_map _) e24) ?_
  refine eF fo46_1 (hr := ix_get e24) ?_
  refine eL sh3 (hr := ix_get e24) ?_
  refine eF fo46_1 ?_
  refine eL sh3 ?_
  obtain ⟨x35, e35, h4⟩ := bnd_e h4
  refine eP (fun H hH => yv_sub rfl rfl rfl e35) ?_
  refine eM ?_
  obtain ⟨p36, h4⟩ := asrt_e h4
  refine de_pure rfl rfl rfl rfl (fun H hH => yv_ixW rfl Tryz.underlying66 sh46 rfl rfl ((hH _ (by decide)).trans rfl) rfl rfl p36 (List.length_map _) e24) ?_
  refine eF fo46_2 (hr := ix_get e24) ?_
  refine eL sh3 (hr := ix_get e24) ?_
  refine eF fo46_2 ?_
  refine eL sh3 ?_
  obtain ⟨x37, e37, h4⟩ := bnd_e h4
  refine eP (fun H hH => yv_sub rfl rfl rfl e37) ?_
  obtain ⟨p38, h4⟩ := asrt_e h4
  refine de_pure rfl rfl rfl rfl (fun H hH => yv_ixW rfl Tryz.underlying66 sh46 rfl rfl ((hH _ (by decide)).trans rfl) rfl rfl p38 (List.length_map _) e24) ?_
  refine eF fo46_0 (hr := ix_get e24) ?_
  obtain ⟨x39, e39, h4⟩ := bnd_e h4
  have fx39 := ix_set e24 e39; have lx39 := len_setV e39 (rfl : y1_4.length = y1_4.length)
  refine de_eff0 rfl rfl rfl rfl (Yield.weak (yl_ob (ob' := (⟨46, 3, true, true, v14, x39.map GLayer.av⟩ : AObj)) (yl_store rfl sh3 rfl rfl rfl rfl rfl (ix_get e24) rfl rfl rfl) (ob_eq (map_setV e39))) (fun _ h => h) (fun _ _ => trivial)) (by rintro _ _ ⟨rfl, rfl⟩; exact ⟨rfl, trivial⟩) ?_; rintro _ _ ⟨rfl, rfl⟩
  obtain ⟨p40, h4⟩ := asrt_e h4
  refine de_pure rfl rfl rfl rfl (fun H hH => yv_ixW rfl Tryz.underlying66 sh46 rfl rfl ((hH _ (by decide)).trans rfl) rfl rfl p40 (List.length_map _) fx39) ?_
  refine eF fo46_1 (hr := ix_get fx39) ?_
  obtain ⟨x41, e41, h4⟩ := bnd_e h4
  have fx41 := ix_set fx39 e41; have lx41 := len_setV e41 lx39
  refine de_eff0 rfl rfl rfl rfl (Yield.weak (yl_ob (ob' := (⟨46, 3, true, true, v14, x41.map GLayer.av⟩ : AObj)) (yl_store rfl sh3 rfl rfl rfl rfl rfl (ix_get fx39) rfl rfl rfl) (ob_eq (map_setV e41))) (fun _ h => h) (fun _ _ => trivial)) (by rintro _ _ ⟨rfl, rfl⟩; exact ⟨rfl, trivial⟩) ?_; rintro _ _ ⟨rfl, rfl⟩
  obtain ⟨p42, h4⟩ := asrt_e h4
  refine de_pure rfl rfl rfl rfl (fun H hH => yv_ixW rfl Tryz.underlying66 sh46 rfl rfl ((hH _ (by decide)).trans rfl) rfl rfl p42 (List.length_map _) fx41) ?_
  refine eF fo46_2 (hr := ix_get fx41) ?_
  obtain ⟨x43, e43, h4⟩ := bnd_e h4
  have fx43 := ix_set fx41 e43; have lx43 := len_setV e43 lx41
  refine de_eff0 rfl rfl rfl rfl (Yield.weak (yl_ob (ob' := (⟨46, 3, true, true, v14, x43.map GLayer.av⟩ : AObj)) (yl_store rfl sh3 rfl rfl rfl rfl rfl (ix_get fx41) rfl rfl rfl) (ob_eq (map_setV e43))) (fun _ h => h) (fun _ _ => trivial)) (by rintro _ _ ⟨rfl, rfl⟩; exact trivial) ?_; rintro _ _ ⟨rfl, rfl⟩
  refine de_nil (hK _ ?_)
  exact lf h4 () leA
  rintro ⟨y3_1, y3_2, y3_3, y3_4⟩ _ h3
  replace h3 := p2_e h3
  replace h3 := p2_e h3
  replace h3 := p2_e h3
  refine tc tbk 1 (.mk ?_)
  refine c_drawE [0, 1, 0, 4, 15, 0, 32, 0, 128, 480, 0, 1024, 0, 4096, 15360, 3199, 35967, 102399, 233471, 524287, 1048575] (rl [(0, [7]), (1, [7]), (2, [8]), (3, [8]), (5, [7]), (6, [7]), (7, [8]), (8, [8]), (10, [7]), (11, [7]), (12, [8]), (13, [8]), (15, [7]), (17, [7]), (19, [7])] []) (rl [(16, [8]), (18, [8]), (20, [])] [7, 8]) (rl [(16, false), (18, false), (20, false)] true) [0, 1, 2, 3, 4, 5, 6, 7, 8, 9, 10, 11, 12, 13, 14, 15, 16, 17, 18, 19, 20] mixed (by kernel_rfl) ?_; intro K hK
  refine eF fo46_0 ?_
  refine eL sh3 ?_
  refine eF fo46_0 ?_
  refine eL sh3 ?_
  obtain ⟨x44, e44, h3⟩ := bnd_e h3
  refine eP (fun H hH => yv_add rfl rfl rfl e44) ?_
  refine eF fo46_1 ?_
  refine eL sh3 ?_
  refine eF fo46_1 ?_
  refine eL sh3 ?_
  obtain ⟨x45, e45, h3⟩ := bnd_e h3
  refine eP (fun H hH => yv_add rfl rfl rfl e45) ?_
  refine eF fo46_2 ?_
  refine eL sh3 ?_
  refine eF fo46_2 ?_
  refine eL sh3 ?_
  obtain ⟨x46, e46, h3⟩ := bnd_e h3
  refine eP (fun H hH => yv_add rfl rfl rfl e46) ?_
  refine eF fo46_0 ?_
  refine de_eff0 rfl rfl rfl rfl (Yield.weak (yl_ob (ob' := (⟨46, 3, true, true, v18, [[int x44, int y1_5.Value, int y1_5.Profit]]⟩ : AObj)) (yl_store rfl sh3 rfl rfl rfl rfl rfl rfl rfl rfl rfl) rfl) (fun _ h => h) (fun _ _ => trivial)) (by rintro _ _ ⟨rfl, rfl⟩; exact ⟨rfl, trivial⟩) ?_; rintro _ _ ⟨rfl, rfl⟩
  refine eF fo46_1 ?_
  refine de_eff0 rfl rfl rfl rfl (Yield.weak (yl_ob (ob' := (⟨46, 3, true, true, v18, [[int x44, int x45, int y1_5.Profit]]⟩ : AObj)) (yl_store rfl sh3 rfl rfl rfl rfl rfl rfl rfl rfl rfl) rfl) (fun _ h => h) (fun _ _ => trivial)) (by rintro _ _ ⟨rfl, rfl⟩; exact ⟨rfl, trivial⟩) ?_; rintro _ _ ⟨rfl, rfl⟩
  refine eF fo46_2 ?_
  refine de_eff0 rfl rfl rfl rfl (Yield.weak (yl_ob (ob' := (⟨46, 3, true, true, v18, [[int x44, int x45, int x46]]⟩ : AObj)) (yl_store rfl sh3 rfl rfl rfl rfl rfl rfl rfl rfl rfl) rfl) (fun _ h => h) (fun _ _ => trivial)) (by rintro _ _ ⟨rfl, rfl⟩; exact trivial) ?_; rintro _ _ ⟨rfl, rfl⟩
  refine de_nil (hK _ ?_)
  refine tc tbk 4 (.mk ?_)
  refine ni tbk h3 fun x47 h3 => ?_
  refine tr tbk 3 (.mk ?_)
  exact bk (y3_1, y3_2, x47, y3_3, (⟨x44, x45, x46⟩ : GLayer)) () h3 leA
  rintro ⟨y4_1, y4_2, y4_3, y4_4⟩ _ h2
  replace h2 := p2_e h2
  replace h2 := p2_e h2
  replace h2 := p2_e h2
  refine tc tbk 1 (.mk ?_)
  refine c_drawE [0, 0, 1, 7, 15] (rl [(1, [7])] []) (rl [(3, [])] [7]) (rl [(3, false)] true) [0, 1, 2, 3, 4] mixed (by kernel_rfl) ?_; intro K hK
  refine eM ?_
  refine eL sh46 ?_
  refine eA ?_
  refine de_eff0 rfl rfl rfl rfl (Yield.weak (yl_ob (ob' := (⟨46, 3, true, true, v12, [[int y4_4.Qty, int y4_4.Value, int y4_4.Profit]]⟩ : AObj)) (yl_store rfl sh46 rfl rfl rfl rfl rfl rfl rfl rfl rfl) rfl) (fun _ h => h) (fun _ _ => trivial)) (by rintro _ _ ⟨rfl, rfl⟩; exact trivial) ?_; rintro _ _ ⟨rfl, rfl⟩
  refine eA ?_
  refine de_nil (hK _ ?_)
  obtain rfl := nxt_e h2
  refine w_ret (hret _ _ (hk [(1, ⟨46, 3, true, true, v4, [[int 0, int 0, int 0]]⟩), (3, ⟨46, 3, true, true, v8, [[int 0, int 0, int 0]]⟩), (6, ⟨46, 3, true, true, v14, y4_3.map GLayer.av⟩)]) (.tmp rfl (.cell rfl (.pt rfl rfl rfl) sh46 rfl (.tmp rfl .nil))) (HK.le ⟨rfl, rfl, rfl, trivial⟩) ?_)
  exact ⟨(y4_1, y4_2, y4_4, 0, y4_3), v14, rfl, rfl, rfl⟩
  replace h2 := ct h2
  refine tc tbk 6 (.mk ?_)
  refine sS ⟨46, 3, true, true, v12, [[int 0, int 0, int 0]]⟩ sh46 ?_
  refine tr tbk 2 (.mk ?_)
  obtain rfl := nxt_e h2
  refine w_ret (hret _ _ (hk [(1, ⟨46, 3, true, true, v4, [[int 0, int 0, int 0]]⟩), (3, ⟨46, 3, true, true, v8, [[int 0, int 0, int 0]]⟩), (6, ⟨46, 3, true, true, v14, a1.map GLayer.av⟩)]) (.tmp rfl (.cell rfl (.pt rfl rfl rfl) sh46 rfl (.tmp rfl .nil))) (HK.le ⟨rfl, rfl, rfl, trivial⟩) ?_)
  exact ⟨(0, a1.length, (⟨0, 0, 0⟩ : GLayer), 5, a1), v14, rfl, rfl, rfl⟩
  replace h2 := ct h2
  refine tc tbk 6 (.mk ?_)
  refine sS ⟨46, 3, true, true, v12, [[int 0, int 0, int 0]]⟩ sh46 ?_
  refine tr tbk 2 (.mk ?_)
  obtain rfl := nxt_e h2
  refine w_ret (hret _ _ (hk [(1, ⟨46, 3, true, true, v4, [[int 0, int 0, int 0]]⟩), (3, ⟨46, 3, true, true, v8, [[int 0, int 0, int 0]]⟩), (6, ⟨46, 3, true, true, v14, a1.map GLayer.av⟩)]) (.tmp rfl (.cell rfl (.pt rfl rfl rfl) sh46 rfl (.tmp rfl .nil))) (HK.le ⟨rfl, rfl, rfl, trivial⟩) ?_)
  exact ⟨(0, a1.length, (⟨0, 0, 0⟩ : GLayer), 1, a1), v14, rfl, rfl, rfl⟩
  rintro y _ ⟨⟨y5_2, y5_3, y5_4, y5_5, y5_6⟩, w5_1, rfl, hc, rfl⟩
  replace h1 := p2_e h1
  replace h1 := p2_e h1
  replace h1 := p2_e h1
  replace h1 := p2_e h1
  subst hc
  refine tr tbk 4 (.mk ?_)
  refine sS ⟨46, 3, true, true, v8, [[int y5_4.Qty, int y5_4.Value, int y5_4.Profit]]⟩ sh46 ?_
  refine tr tbk 2 (.mk ?_)
  obtain rfl := nxt_e h1
  refine w_ret (hret _ _ (hk [(1, ⟨46, 3, true, true, v4, [[int 0, int 0, int 0]]⟩), (6, ⟨46, 3, true, true, w5_1, y5_6.map GLayer.av⟩)]) (.tmp rfl (.cell rfl (.pt rfl rfl rfl) sh46 rfl (.tmp rfl .nil))) (HK.le ⟨rfl, rfl, trivial⟩) ?_)
  exact ⟨(y5_2, y5_3, y5_4, y5_5, y5_6), w5_1, rfl, rfl, rfl⟩
  rintro y _ ⟨⟨y6_2, y6_3, y6_4, y6_5, y6_6⟩, w6_1, rfl, hc, rfl⟩
  replace h0 := p2_e h0
  replace h0 := p2_e h0
  replace h0 := p2_e h0
  replace h0 := p2_e h0
  subst hc
  refine tr tbk 4 (.mk ?_)
  refine rse rfl rfl rfl (yl_alloc 9 .any rfl z46 rfl) ?_; rintro _ _ ⟨v48, -, rfl, rfl⟩
  refine tr tbk 1 (.mk ?_)
  refine sS ⟨46, 3, true, true, v48, [[int y6_4.Qty, int y6_4.Value, int y6_4.Profit]]⟩ sh46 ?_
  refine tr tbk 4 (.mk ?_)
  refine jn h0 [1, 2, 6, 7, 8, 9, 10, 11] [1, 6, 9] (fun (a : Bool) (k : Unit) => [(33, boo a)]) (fun a k => []) ⟨fun j49 h1 => ?_, ?_⟩
  refine tc tbk 2 (.mk ?_)
  refine nb tbk h1 fun x50 h1 => ?_
  refine tr tbk 1 (.mk ?_)
  cases x50
  replace h1 := cf h1
  refine tr tbk 1 (.mk ?_)
  refine rst rfl rfl rfl (yv_len_sl rfl Tryz.underlying66 rfl (.sl rfl rfl)) ?_
  refine nb tbk h1 fun x51 h1 => ?_
  refine tr tbk 2 (.mk ?_)
  exact lf h1 () leA
  replace h1 := ct h1
  refine tr tbk 5 (.mk ?_)
  exact lf h1 () leA
  rintro y7_1 _ h0
  cases y7_1
  replace h0 := cf h0
  refine tc tbk 6 (.mk ?_)
  obtain ⟨x52, e52, h0⟩ := bind_e h0
  refine rst rfl rfl rfl (yv_callP rfl rfl (.cons rfl (.cons rfl .nil)) cal208 (CvL.refl _) (d_stdcost_rate_of_c e52)) ?_
  refine tr tbk 8 (.mk ?_)
  refine c_drawE [0, 1, 3, 7, 0, 16, 63, 127] (rl [(1, [6]), (2, [6]), (3, [6]), (4, [9]), (5, [9])] []) (fun i => [6, 9]) (fun i => true) [0, 1, 2, 3, 4, 5, 6, 7] mixed (by kernel_rfl) ?_; intro K hK
  refine eM ?_
  obtain ⟨p53, h0⟩ := asrt_e h0
  obtain ⟨x54, e54, h0⟩ := bind_e h0
  refine de_pure rfl rfl rfl rfl (fun H hH => yv_ixW rfl Tryz.underlying66 sh46 rfl rfl ((hH _ (by decide)).trans rfl) rfl rfl p53 (List.length_map _) e54) ?_
  refine eF fo46_1 (hr := ix_get e54) ?_
  refine eL sh3 (hr := ix_get e54) ?_
  refine eF fo46_1 ?_
  refine eL sh3 ?_
  obtain ⟨x55, e55, h0⟩ := bnd_e h0
  refine eP (fun H hH => yv_add rfl rfl rfl e55) ?_
  refine eA ?_
  refine de_nil (hK _ ?_)
  refine tc tbk 1 (.mk ?_)
  refine jn h0 [6, 7, 8, 9, 10, 12, 13] [1, 6, 9] (fun (a : Bool) (k : Unit) => [(56, boo a)]) (fun a k => []) ⟨fun j56 h1 => ?_, ?_⟩
  refine tc tbk 2 (.mk ?_)
  refine nb tbk h1 fun x57 h1 => ?_
  refine tr tbk 1 (.mk ?_)
  cases x57
  replace h1 := cf h1
  refine tr tbk 2 (.mk ?_)
  refine nb tbk h1 fun x58 h1 => ?_
  refine tr tbk 2 (.mk ?_)
  exact lf h1 () leA
  replace h1 := ct h1
  refine tr tbk 5 (.mk ?_)
  exact lf h1 () leA
  rintro y8_1 _ h0
  refine jn h0 [6, 7, 8, 9, 10] [1, 6, 9] (fun (a : Int) (k : Unit) => [(12, int a)]) (fun a k => []) ⟨fun j59 h1 => ?_, ?_⟩
  cases y8_1
  replace h1 := cf h1
  refine tc tbk 2 (.mk ?_)
  exact lf h1 () leA
  replace h1 := ct h1
  refine tc tbk 5 (.mk ?_)
  exact lf h1 () leA
  rintro y9_1 _ h0
  refine tc tbk 1 (.mk ?_)
  refine c_drawE [0, 1, 3, 7, 0, 16, 0, 112, 255, 511, 1023, 2047] (rl [(1, [6]), (2, [6]), (3, [6]), (4, [9]), (5, [9]), (9, [6]), (10, [6])] []) (rl [(11, [])] [6, 9]) (rl [(11, false)] true) [0, 1, 2, 3, 4, 5, 6, 7, 8, 9, 10, 11] mixed (by kernel_rfl) ?_; intro K hK
  refine eM ?_
  obtain ⟨p60, h0⟩ := asrt_e h0
  refine de_pure rfl rfl rfl rfl (fun H hH => yv_ixW rfl Tryz.underlying66 sh46 rfl rfl ((hH _ (by decide)).trans rfl) rfl rfl p60 (List.length_map _) e54) ?_
  refine eF fo46_1 (hr := ix_get e54) ?_
  refine eL sh3 (hr := ix_get e54) ?_
  refine eF fo46_1 ?_
  refine eL sh3 ?_
  refine eM ?_
  obtain ⟨x61, e61, h0⟩ := bnd_e h0
  refine eP (fun H hH => yv_sub rfl rfl rfl e61) ?_
  obtain ⟨x62, e62, h0⟩ := bnd_e h0
  refine eP (fun H hH => yv_add rfl rfl rfl e62) ?_
  obtain ⟨p63, h0⟩ := asrt_e h0
  refine de_pure rfl rfl rfl rfl (fun H hH => yv_ixW rfl Tryz.underlying66 sh46 rfl rfl ((hH _ (by decide)).trans rfl) rfl rfl p63 (List.length_map _) e54) ?_
  refine eF fo46_1 (hr := ix_get e54) ?_
  obtain ⟨x64, e64, h0⟩ := bnd_e h0
  have fx64 := ix_set e54 e64; have lx64 := len_setV e64 (rfl : y6_6.length = y6_6.length)
  refine de_eff0 rfl rfl rfl rfl (Yield.weak (yl_ob (ob' := (⟨46, 3, true, true, w6_1, x64.map GLayer.av⟩ : AObj)) (yl_store rfl sh3 rfl rfl rfl rfl rfl (ix_get e54) rfl rfl rfl) (ob_eq (map_setV e64))) (fun _ h => h) (fun _ _ => trivial)) (by rintro _ _ ⟨rfl, rfl⟩; exact trivial) ?_; rintro _ _ ⟨rfl, rfl⟩
  refine de_nil (hK _ ?_)
  refine tc tbk 4 (.mk ?_)
  refine sS ⟨46, 3, true, true, v48, [[int y6_4.Qty, int y9_1, int y6_4.Profit]]⟩ sh3 ?_
  refine tr tbk 2 (.mk ?_)
  refine c_drawE [0, 0, 1, 7, 15] (rl [(1, [9])] []) (rl [(3, [])] [9]) (rl [(3, false)] true) [0, 1, 2, 3, 4] mixed (by kernel_rfl) ?_; intro K hK
  refine eM ?_
  refine eL sh46 ?_
  refine eA ?_
  refine de_eff0 rfl rfl rfl rfl (Yield.weak (yl_ob (ob' := (⟨46, 3, true, true, v4, [[int y6_4.Qty, int y9_1, int y6_4.Profit]]⟩ : AObj)) (yl_store rfl sh46 rfl rfl rfl rfl rfl rfl rfl rfl rfl) rfl) (fun _ h => h) (fun _ _ => trivial)) (by rintro _ _ ⟨rfl, rfl⟩; exact trivial) ?_; rintro _ _ ⟨rfl, rfl⟩
  refine eA ?_
  refine de_nil (hK _ ?_)
  obtain ⟨p65, h0⟩ := asrt_e h0
  obtain rfl := nxt_e h0
  refine w_ret (hret _ _ _ (.tmp rfl (.cell rfl (.pt rfl rfl rfl) sh46 rfl (.tmp rfl .nil))) (fun _ _ h => h) ?_)
  exact CvL.tup (.cons (cv_win (l := x64) rfl rfl rfl rfl (CvLL.refl _) (by first | omega | (simp only [List.length_set]; omega)) rfl) (.cons (.refl _) (.cons (.refl _) .nil)))
  replace h0 := ct h0
  refine tc tbk 2 (.mk ?_)
  refine c_drawE [0, 0, 0, 1, 11, 31] (rl [(1, [9])] []) (rl [(4, [])] [9]) (rl [(4, false)] true) [0, 1, 2, 3, 4, 5] mixed (by kernel_rfl) ?_; intro K hK
  refine eM ?_
  refine eL sh46 ?_
  refine eM ?_
  refine eA ?_
  refine de_eff0 rfl rfl rfl rfl (Yield.weak (yl_ob (ob' := (⟨46, 3, true, true, v4, [[int y6_4.Qty, int y6_4.Value, int y6_4.Profit]]⟩ : AObj)) (yl_store rfl sh46 rfl rfl rfl rfl rfl rfl rfl rfl rfl) rfl) (fun _ h => h) (fun _ _ => trivial)) (by rintro _ _ ⟨rfl, rfl⟩; exact trivial) ?_; rintro _ _ ⟨rfl, rfl⟩
  refine eA ?_
  refine de_nil (hK _ ?_)
  obtain ⟨p66, h0⟩ := asrt_e h0
  obtain rfl := nxt_e h0
  refine w_ret (hret _ _ _ (.tmp rfl (.cell rfl (.pt rfl rfl rfl) sh46 rfl (.tmp rfl .nil))) (fun _ _ h => h) ?_)
  exact CvL.tup (.cons (cv_win (l := y6_6) rfl rfl rfl rfl (CvLL.refl _) (by first | omega | (simp only [List.length_set]; omega)) rfl) (.cons (.refl _) (.cons (.refl _) .nil)))
  replace h0 := ct h0
  refine tc tbk 4 (.mk ?_)
  obtain ⟨p67, h0⟩ := asrt_e h0
  refine rse rfl rfl rfl (yl_call rfl rfl (.cons rfl .nil) cal144 (pc_cv (clone144_c (id := 2) (l := a1) rfl p67) (.cons (.refl _) .nil))) ?_; rintro _ _ ⟨v68, rfl, rfl⟩
  refine tr tbk 2 (.mk ?_)
  refine sS ⟨46, 3, true, true, v4, [[int 0, int 0, int 0]]⟩ sh46 ?_
  refine tr tbk 2 (.mk ?_)
  obtain rfl := nxt_e h0
  refine w_ret (hret _ _ _ (.tmp rfl (.cell rfl (.pt rfl rfl rfl) sh46 rfl (.tmp rfl .nil))) (fun _ _ h => h) ?_)
  exact CvL.tup (.cons (cv_lst rfl rfl rfl rfl rfl (Eq.symm rfl)) (.cons (.refl _) (.cons (.refl _) .nil)))
end Go.Pv
