import Derived.Test.YtbcjcecegdfnpaaGreatK1b
set_option linter.unusedVariables false
namespace Go.Pv
open Go.Proofs
set_option maxRecDepth 10000
set_option maxHeartbeats 4000000
def d_ref14_there (a1 : GState) (a2 : Int) (a3 : Int) : Option (Bool) :=
(show Option (Bool) from
bnd (w64 ((a1.Ents.length : Int) - 1)) fun (x6 : Int) =>
(d_ref14_to a2 x6).bind fun (x7 : Bool) =>
cond x7 (bnd (w64 ((a1.Master.Weights.length : Int) - 1)) fun (x8 : Int) =>
(d_ref14_to a3 x8).bind fun (x9 : Bool) =>
some (x9 : Bool)) (some (false : Bool))).bind <| fun (y0_1 : Bool) =>
some ((y0_1 : Bool))
theorem d_ref14_there_c {a1 : GState} {a2 : Int} {a3 : Int} {r : Bool} (h0 : d_ref14_there a1 a2 a3 = some r) : PP Tryz.prog 65 [.agg (GState.av a1), int a2, int a3] (fun y => y = boo r) := by
  unfold d_ref14_there at h0
  refine pp_of_pc (R0 := fun y H => Cv (frzH H) y (boo r)) ?_ (fun y H hc => ⟨_, rfl, pvB r, hc⟩)
  refine pcw (c := _) Tryz.func65 rfl rfl ?_; intro Q hret hnorm
  refine tc tbk 2 (.mk ?_)
  refine rse rfl rfl rfl (yl_box 1 .any rfl rfl rfl) ?_; rintro _ _ ⟨v4, -, rfl, rfl⟩
  refine tr tbk 3 (.mk ?_)
  refine jn h0 [] [] (fun (a : Bool) (k : Unit) => [(6, boo a)]) (fun a k => []) ⟨fun j5 h1 => ?_, ?_⟩
  refine tc tbk 4 (.mk ?_)
  refine rst rfl rfl rfl (yv_len_sl rfl Tryz.underlying27 rfl (lst_len _)) ?_
  refine ni tbk h1 fun x6 h1 => ?_
  obtain ⟨x7, e7, h1⟩ := bind_e h1
  refine rst rfl rfl rfl (yv_callP rfl rfl (.cons rfl (.cons rfl .nil)) cal66 (CvL.refl _) (d_ref14_to_c e7)) ?_
  refine tr tbk 1 (.mk ?_)
  cases x7
  replace h1 := cf h1
  refine tr tbk 10 (.mk ?_)
  exact lf h1 () leA
  replace h1 := ct h1
  refine tr tbk 4 (.mk ?_)
  refine rst rfl rfl rfl (yv_len_sl rfl Tryz.underlying23 rfl (lst_len _)) ?_
  refine ni tbk h1 fun x8 h1 => ?_
  obtain ⟨x9, e9, h1⟩ := bind_e h1
  refine rst rfl rfl rfl (yv_callP rfl rfl (.cons rfl (.cons rfl .nil)) cal66 (CvL.refl _) (d_ref14_to_c e9)) ?_
  refine tr tbk 3 (.mk ?_)
  exact lf h1 () leA
  rintro y0_1 _ h0
  obtain rfl := nxt_e h0
  refine w_ret (hret _ _ _ (.tmp rfl .nil) (fun _ _ h => h) ?_)
  exact .refl _
def d_ref14_At (a1 : GState) (a2 : Int) (a3 : Int) (a4 : Int) : Option (GPool) :=
(show Option (Bool) from
(d_ref14_there a1 a2 a3).bind fun (x8 : Bool) =>
bnd (!x8) fun (x9 : Bool) =>
cond x9 (some (true : Bool)) ((d_ref14_to a4 1).bind fun (x10 : Bool) =>
bnd (!x10) fun (x11 : Bool) =>
cond x11 (some (true : Bool)) (bnd (w64 (a3 * 2)) fun (x12 : Int) =>
bnd (w64 (x12 + a4)) fun (x13 : Int) =>
(ix a1.Ents a2).bind fun (x14 : GEnt) =>
bnd (decide (x13 ≥ (x14.Pools.length : Int))) fun (x15 : Bool) =>
some (x15 : Bool)))).bind <| fun (y0_1 : Bool) =>
cond y0_1 (some (((⟨[], (⟨0, 0, 0⟩ : A3_Int)⟩ : GPool) : GPool))) ((ix a1.Ents a2).bind fun (x16 : GEnt) =>
bnd (w64 (a3 * 2)) fun (x17 : Int) =>
bnd (w64 (x17 + a4)) fun (x18 : Int) =>
(ix x16.Pools x18).bind fun (x19 : GPool) =>
some ((x19 : GPool)))
theorem d_ref14_At_c {a1 : GState} {a2 : Int} {a3 : Int} {a4 : Int} {r : GPool} (h0 : d_ref14_At a1 a2 a3 a4 = some r) : PP Tryz.prog 31 [.agg (GState.av a1), int a2, int a3, int a4] (fun y => y = .agg (GPool.av r)) := by
  unfold d_ref14_At at h0
  refine pp_of_pc (R0 := fun y H => Cv (frzH H) y (.agg (GPool.av r))) ?_ (fun y H hc => ⟨_, rfl, (fun (a : GPool) => PV.agg (GPool.pvc a)) r, hc⟩)
  refine pcw (c := _) Tryz.func31 rfl rfl ?_; intro Q hret hnorm
  refine tc tbk 2 (.mk ?_)
  refine rse rfl rfl rfl (yl_box 1 .any rfl rfl rfl) ?_; rintro _ _ ⟨v5, -, rfl, rfl⟩
  refine rse rfl rfl rfl (yl_alloc 2 .any rfl z69 rfl) ?_; rintro _ _ ⟨v6, -, rfl, rfl⟩
  refine tr tbk 3 (.mk ?_)
  refine jn h0 [1, 2, 3, 4, 8] [1, 2] (fun (a : Bool) (k : Unit) => [(32, boo a)]) (fun a k => []) ⟨fun j7 h1 => ?_, ?_⟩
  refine tc tbk 4 (.mk ?_)
  obtain ⟨x8, e8, h1⟩ := bind_e h1
  refine rst rfl rfl rfl (yv_callP rfl rfl (.cons rfl (.cons rfl (.cons rfl .nil))) cal65 (CvL.refl _) (d_ref14_there_c e8)) ?_
  refine nb tbk h1 fun x9 h1 => ?_
  refine tr tbk 1 (.mk ?_)
  cases x9
  replace h1 := cf h1
  refine tr tbk 1 (.mk ?_)
  obtain ⟨x10, e10, h1⟩ := bind_e h1
  refine rst rfl rfl rfl (yv_callP rfl rfl (.cons rfl (.cons rfl .nil)) cal66 (CvL.refl _) (d_ref14_to_c e10)) ?_
  refine nb tbk h1 fun x11 h1 => ?_
  refine tr tbk 2 (.mk ?_)
  cases x11
  replace h1 := cf h1
  refine tr tbk 1 (.mk ?_)
  refine ni tbk h1 fun x12 h1 => ?_
  refine tr tbk 1 (.mk ?_)
  refine ni tbk h1 fun x13 h1 => ?_
  refine tr tbk 3 (.mk ?_)
  obtain ⟨x14, e14, h1⟩ := bind_e h1
  refine rst rfl rfl rfl (yv_to (y := .pp [int x14.Now, boo x14.Closed, lst 4 GPool.av x14.Pools, lst 1 fI x14.Bal, lst 11 GRoll.av x14.Rolls, lst 1 fI x14.Prices, lst 1 fI x14.Down, lst 8 GEnt.av x14.Ahead]) (yv_ixT rfl Tryz.underlying27 sh42 rfl rfl e14) (congrArg AV.pp (GEnt.av_eq x14))) ?_
  refine tr tbk 2 (.mk ?_)
  refine rst rfl rfl rfl (yv_len_sl rfl Tryz.underlying39 rfl (lst_len _)) ?_
  refine nb tbk h1 fun x15 h1 => ?_
  refine tr tbk 2 (.mk ?_)
  exact lf h1 () leA
  replace h1 := ct h1
  refine tr tbk 14 (.mk ?_)
  exact lf h1 () leA
  replace h1 := ct h1
  refine tr tbk 19 (.mk ?_)
  exact lf h1 () leA
  rintro y0_1 _ h0
  cases y0_1
  replace h0 := cf h0
  refine tc tbk 7 (.mk ?_)
  obtain ⟨x16, e16, h0⟩ := bind_e h0
  refine rst rfl rfl rfl (yv_to (y := .pp [int x16.Now, boo x16.Closed, lst 4 GPool.av x16.Pools, lst 1 fI x16.Bal, lst 11 GRoll.av x16.Rolls, lst 1 fI x16.Prices, lst 1 fI x16.Down, lst 8 GEnt.av x16.Ahead]) (yv_ixT rfl Tryz.underlying27 sh42 rfl rfl e16) (congrArg AV.pp (GEnt.av_eq x16))) ?_
  refine tr tbk 3 (.mk ?_)
  refine ni tbk h0 fun x17 h0 => ?_
  refine tr tbk 1 (.mk ?_)
  refine ni tbk h0 fun x18 h0 => ?_
  obtain ⟨x19, e19, h0⟩ := bind_e h0
  refine rst rfl rfl rfl (yv_ixT rfl Tryz.underlying39 sh69 rfl rfl e19) ?_
  refine tr tbk 1 (.mk ?_)
  refine rsstore rfl rfl (yl_ob (ob' := (⟨69, 4, true, true, v6, [[lst 3 GLayer.av x19.Layers, int x19.Pend.a0, int x19.Pend.a1, int x19.Pend.a2]]⟩ : AObj)) (yl_store rfl sh69 rfl rfl rfl rfl rfl rfl rfl rfl rfl) rfl) ?_
  refine tr tbk 1 (.mk ?_)
  obtain rfl := nxt_e h0
  refine w_ret (hret _ _ _ (.cell rfl (.pt rfl rfl rfl) sh69 rfl .nil) (fun _ _ h => h) ?_)
  exact .refl _
  replace h0 := ct h0
  refine tc tbk 4 (.mk ?_)
  refine rsstore rfl rfl (yl_ob (ob' := (⟨69, 4, true, true, v6, [[.sc (.slice none 0 0), int 0, int 0, int 0]]⟩ : AObj)) (yl_store rfl sh69 rfl rfl rfl rfl rfl rfl rfl rfl rfl) rfl) ?_
  refine tr tbk 1 (.mk ?_)
  obtain rfl := nxt_e h0
  refine w_ret (hret _ _ _ (.cell rfl (.pt rfl rfl rfl) sh69 rfl .nil) (fun _ _ h => h) ?_)
  exact (CvL.agg (.cons (.nil _) (.cons (.refl _) (.cons (.refl _) (.cons (.refl _) .nil)))))
def d_ref01_In (a1 : Int) : Option (Bool) :=
(show Option (Bool) from
bnd (decide (a1 ≥ (-288230376151711744))) fun (x3 : Bool) =>
cond x3 (bnd (decide (a1 ≤ 288230376151711744)) fun (x4 : Bool) =>
some (x4 : Bool)) (some (false : Bool))).bind <| fun (y0_1 : Bool) =>
some ((y0_1 : Bool))
theorem d_ref01_In_c {a1 : Int} {r : Bool} (h0 : d_ref01_In a1 = some r) : PP Tryz.prog 92 [int a1] (fun y => y = boo r) := by
  unfold d_ref01_In at h0
  refine pp_of_pc (R0 := fun y H => Cv (frzH H) y (boo r)) ?_ (fun y H hc => ⟨_, rfl, pvB r, hc⟩)
  refine pcw (c := _) Tryz.func92 rfl rfl ?_; intro Q hret hnorm
  refine tc tbk 5 (.mk ?_)
  refine jn h0 [] [] (fun (a : Bool) (k : Unit) => [(2, boo a)]) (fun a k => []) ⟨fun j2 h1 => ?_, ?_⟩
  refine tc tbk 2 (.mk ?_)
  refine nb tbk h1 fun x3 h1 => ?_
  refine tr tbk 1 (.mk ?_)
  cases x3
  replace h1 := cf h1
  refine tr tbk 5 (.mk ?_)
  exact lf h1 () leA
  replace h1 := ct h1
  refine tr tbk 1 (.mk ?_)
  refine nb tbk h1 fun x4 h1 => ?_
  refine tr tbk 3 (.mk ?_)
  exact lf h1 () leA
  rintro y0_1 _ h0
  obtain rfl := nxt_e h0
  refine w_ret (hret _ _ _ (.tmp rfl .nil) (fun _ _ h => h) ?_)
  exact .refl _
def d_ref01_Add (a1 : Int) (a2 : Int) : Option (Int × Int) :=
(show Option (Bool) from
(d_ref01_In a1).bind fun (x4 : Bool) =>
bnd (!x4) fun (x5 : Bool) =>
cond x5 (some (true : Bool)) ((d_ref01_In a2).bind fun (x6 : Bool) =>
bnd (!x6) fun (x7 : Bool) =>
cond x7 (some (true : Bool)) (bnd (w64 (a1 + a2)) fun (x8 : Int) =>
(d_ref01_In x8).bind fun (x9 : Bool) =>
bnd (!x9) fun (x10 : Bool) =>
some (x10 : Bool)))).bind <| fun (y0_1 : Bool) =>
cond y0_1 (some ((0 : Int), (2 : Int))) (bnd (w64 (a1 + a2)) fun (x11 : Int) =>
some ((x11 : Int), (0 : Int)))
theorem d_ref01_Add_c {a1 : Int} {a2 : Int} {r : Int × Int} (h0 : d_ref01_Add a1 a2 = some r) : PP Tryz.prog 90 [int a1, int a2] (fun y => y = .tup [int r.1, int r.2]) := by
  unfold d_ref01_Add at h0
  refine pp_of_pc (R0 := fun y H => Cv (frzH H) y (.tup [int r.1, int r.2])) ?_ (fun y H hc => ⟨_, rfl, .tup (pvl2 (pvI (r.1)) (pvI (r.2))), hc⟩)
  refine pcw (c := _) Tryz.func90 rfl rfl ?_; intro Q hret hnorm
  refine tc tbk 7 (.mk ?_)
  refine jn h0 [0, 1, 4, 5] [] (fun (a : Bool) (k : Unit) => [(20, boo a)]) (fun a k => []) ⟨fun j3 h1 => ?_, ?_⟩
  refine tc tbk 2 (.mk ?_)
  obtain ⟨x4, e4, h1⟩ := bind_e h1
  refine rst rfl rfl rfl (yv_callP rfl rfl (.cons rfl .nil) cal92 (CvL.refl _) (d_ref01_In_c e4)) ?_
  refine nb tbk h1 fun x5 h1 => ?_
  refine tr tbk 1 (.mk ?_)
  cases x5
  replace h1 := cf h1
  refine tr tbk 1 (.mk ?_)
  obtain ⟨x6, e6, h1⟩ := bind_e h1
  refine rst rfl rfl rfl (yv_callP rfl rfl (.cons rfl .nil) cal92 (CvL.refl _) (d_ref01_In_c e6)) ?_
  refine nb tbk h1 fun x7 h1 => ?_
  refine tr tbk 2 (.mk ?_)
  cases x7
  replace h1 := cf h1
  refine tr tbk 2 (.mk ?_)
  refine ni tbk h1 fun x8 h1 => ?_
  obtain ⟨x9, e9, h1⟩ := bind_e h1
  refine rst rfl rfl rfl (yv_callP rfl rfl (.cons rfl .nil) cal92 (CvL.refl _) (d_ref01_In_c e9)) ?_
  refine nb tbk h1 fun x10 h1 => ?_
  refine tr tbk 2 (.mk ?_)
  exact lf h1 () leA
  replace h1 := ct h1
  refine tr tbk 7 (.mk ?_)
  exact lf h1 () leA
  replace h1 := ct h1
  refine tr tbk 12 (.mk ?_)
  exact lf h1 () leA
  rintro y0_1 _ h0
  cases y0_1
  replace h0 := cf h0
  refine tc tbk 6 (.mk ?_)
  refine ni tbk h0 fun x11 h0 => ?_
  refine tr tbk 3 (.mk ?_)
  obtain rfl := nxt_e h0
  refine w_ret (hret _ _ _ (.tmp rfl (.tmp rfl .nil)) (fun _ _ h => h) ?_)
  exact .refl _
  replace h0 := ct h0
  refine tc tbk 6 (.mk ?_)
  obtain rfl := nxt_e h0
  refine w_ret (hret _ _ _ (.tmp rfl (.tmp rfl .nil)) (fun _ _ h => h) ?_)
  exact .refl _
def d_ref09_Total_L0 (a1 : List GLayer) : Nat → Int → GLayer → Option ((GLayer) ⊕ (GLayer × Int))
  | 0, _, _ => none
  | n + 1, y0_1, y0_2 =>
    bnd (decide (y0_1 < (a1.length : Int))) fun (x5 : Bool) =>
    cond x5 ((ix a1 y0_1).bind fun (x6 : GLayer) =>
    (d_ref01_Add y0_2.Qty x6.Qty).bind fun (x7 : Int × Int) =>
    (ix a1 y0_1).bind fun (x8 : GLayer) =>
    (d_ref01_Add y0_2.Value x8.Value).bind fun (x9 : Int × Int) =>
    (ix a1 y0_1).bind fun (x10 : GLayer) =>
    (d_ref01_Add y0_2.Profit x10.Profit).bind fun (x11 : Int × Int) =>
    (show Option (Bool) from
    bnd (decide (x7.2 ≠ 0)) fun (x13 : Bool) =>
    cond x13 (some (true : Bool)) (bnd (decide (x9.2 ≠ 0)) fun (x14 : Bool) =>
    cond x14 (some (true : Bool)) (bnd (decide (x11.2 ≠ 0)) fun (x15 : Bool) =>
    some (x15 : Bool)))).bind <| fun (y1_1 : Bool) =>
    cond y1_1 (esc (some (((⟨0, 0, 0⟩ : GLayer) : GLayer), (2 : Int)))) (bnd (w64 (y0_1 + 1)) fun (x16 : Int) =>
    d_ref09_Total_L0 a1 n (x16 : Int) ((⟨x7.1, x9.1, x11.1⟩ : GLayer) : GLayer))) (brk (y0_2 : GLayer))
def d_ref09_Total (n : Nat) (a1 : List GLayer) : Option (GLayer × Int) :=
(show Option ((GLayer) ⊕ (GLayer × Int)) from
d_ref09_Total_L0 a1 n (0 : Int) ((⟨0, 0, 0⟩ : GLayer) : GLayer)).bind <| sel <| fun (y2_1 : GLayer) =>
some ((y2_1 : GLayer), (0 : Int))
theorem d_ref09_Total_c {n : Nat} {a1 : List GLayer} {r : GLayer × Int} (h0 : d_ref09_Total n a1 = some r) : PP Tryz.prog 131 [lst 3 GLayer.av a1] (fun y => y = .tup [.agg (GLayer.av r.1), int r.2]) := by
  unfold d_ref09_Total at h0
  refine pp_of_pc (R0 := fun y H => Cv (frzH H) y (.tup [.agg (GLayer.av r.1), int r.2])) ?_ (fun y H hc => ⟨_, rfl, .tup (pvl2 ((fun (a : GLayer) => PV.agg (GLayer.pvc a)) (r.1)) (pvI (r.2))), hc⟩)
  refine pcw (c := _) Tryz.func131 rfl rfl ?_; intro Q hret hnorm
  refine tc tbk 2 (.mk ?_)
  refine rse rfl rfl rfl (yl_alloc 1 .any rfl z46 rfl) ?_; rintro _ _ ⟨v2, -, rfl, rfl⟩
  refine tr tbk 4 (.mk ?_)
  refine rse rfl rfl rfl (yl_alloc 2 .any rfl z46 rfl) ?_; rintro _ _ ⟨v3, -, rfl, rfl⟩
  refine tr tbk 6 (.mk ?_)
  refine jnE h0 [2, 3, 4] [1] (fun (a : GLayer) (k : Unit) => []) (fun a k => [(2, ⟨46, 3, true, true, v3, [[int a.Qty, int a.Value, int a.Profit]]⟩)]) ⟨fun j4 h1 h0 => ?_, ?_⟩
  refine tc tbk 1 (.mk ?_)
  refine lp (fun n (a : Int × GLayer) => d_ref09_Total_L0 a1 n a.1 a.2) ((0 : Int), ((⟨0, 0, 0⟩ : GLayer) : GLayer)) () h1 [0, 2, 3, 4] [1] (fun (a : Int × GLayer) (k : Unit) => [(5, int a.1)]) (fun a k => [(2, ⟨46, 3, true, true, v3, [[int a.2.Qty, int a.2.Value, int a.2.Profit]]⟩)]) (fun _ => rfl) ⟨leA, ?_⟩
  rintro n ⟨y0_1, y0_2⟩ _ hm h1
  replace h1 : d_ref09_Total_L0 a1 (n + 1) y0_1 y0_2 = some _ := h1
  rw [d_ref09_Total_L0] at h1
  refine tc tbk 5 (.mk ?_)
  refine rst rfl rfl rfl (yv_len_sl rfl Tryz.underlying66 rfl (lst_len _)) ?_
  refine nb tbk h1 fun x5 h1 => ?_
  refine tr tbk 1 (.mk ?_)
  cases x5
  replace h1 := cf h1
  refine tc tbk 2 (.mk ?_)
  exact lfE h1 () leA
  replace h1 := ct h1
  refine tc tbk 5 (.mk ?_)
  refine c_drawE [0, 1, 0, 0, 12, 28, 60, 127, 255, 511, 511, 1023, 4095] (fun i => bif Nat.beq i 0 then ([2]) else bif Nat.beq i 1 then ([2]) else []) (fun i => [2]) (fun i => true) [0, 1, 2, 3, 4, 5, 6, 7, 8, 9, 10, 11, 12] mixed (by kernel_rfl) ?_; intro K hK
  refine de_pure rfl rfl rfl rfl (fun H hH => yv_fieldAddr rfl fo46_0 rfl (.pt ((hH _ (by decide)).trans rfl) rfl rfl) (.pt _ _ _ _ _)) ?_
  refine de_pure rfl rfl rfl rfl (fun H hH => yv_load rfl sh3 rfl (.pt ((hH _ (by decide)).trans rfl) rfl rfl) rfl) ?_
  refine de_pure rfl rfl rfl rfl (fun H hH => yv_move rfl rfl) ?_
  refine de_pure rfl rfl rfl rfl (fun H hH => yv_move rfl rfl) ?_
  obtain ⟨x6, e6, h1⟩ := bind_e h1
  refine de_pure rfl rfl rfl rfl (fun H hH => yv_ixT rfl Tryz.underlying66 sh46 rfl rfl e6) ?_
  refine de_pure rfl rfl rfl rfl (fun H hH => yv_fieldAddr rfl fo46_0 rfl (.pp _) (.pp _ _)) ?_
  refine de_pure rfl rfl rfl rfl (fun H hH => yv_load rfl sh3 rfl (.pp _) rfl) ?_
  obtain ⟨x7, e7, h1⟩ := bind_e h1
  refine de_pure rfl rfl rfl rfl (fun H hH => yv_callP rfl rfl (.cons rfl (.cons rfl .nil)) cal90 (CvL.refl _) (d_ref01_Add_c e7)) ?_
  refine de_pure rfl rfl rfl rfl (fun H hH => yv_move rfl rfl) ?_
  refine de_pure rfl rfl rfl rfl (fun H hH => yv_extract rfl rfl rfl) ?_
  refine de_pure rfl rfl rfl rfl (fun H hH => yv_extract rfl rfl rfl) ?_
  refine de_pure rfl rfl rfl rfl (fun H hH => yv_assign rfl rfl) ?_
  refine de_pure rfl rfl rfl rfl (fun H hH => yv_assign rfl rfl) ?_
  refine de_nil (hK _ ?_)
  refine tc tbk 1 (.mk ?_)
  refine c_drawE [0, 1, 0, 0, 12, 28, 60, 127, 255, 511, 511, 1023, 4095] (fun i => bif Nat.beq i 0 then ([2]) else bif Nat.beq i 1 then ([2]) else []) (fun i => [2]) (fun i => true) [0, 1, 2, 3, 4, 5, 6, 7, 8, 9, 10, 11, 12] mixed (by kernel_rfl) ?_; intro K hK
  refine de_pure rfl rfl rfl rfl (fun H hH => yv_fieldAddr rfl fo46_1 rfl (.pt ((hH _ (by decide)).trans rfl) rfl rfl) (.pt _ _ _ _ _)) ?_
  refine de_pure rfl rfl rfl rfl (fun H hH => yv_load rfl sh3 rfl (.pt ((hH _ (by decide)).trans rfl) rfl rfl) rfl) ?_
  refine de_pure rfl rfl rfl rfl (fun H hH => yv_move rfl rfl) ?_
  refine de_pure rfl rfl rfl rfl (fun H hH => yv_move rfl rfl) ?_
  obtain ⟨x8, e8, h1⟩ := bind_e h1
  refine de_pure rfl rfl rfl rfl (fun H hH => yv_ixT rfl Tryz.underlying66 sh46 rfl rfl e8) ?_
  refine de_pure rfl rfl rfl rfl (fun H hH => yv_fieldAddr rfl fo46_1 rfl (.pp _) (.pp _ _)) ?_
  refine de_pure rfl rfl rfl rfl (fun H hH => yv_load rfl sh3 rfl (.pp _) rfl) ?_
  obtain ⟨x9, e9, h1⟩ := bind_e h1
  refine de_pure rfl rfl rfl rfl (fun H hH => yv_callP rfl rfl (.cons rfl (.cons rfl .nil)) cal90 (CvL.refl _) (d_ref01_Add_c e9)) ?_
  refine de_pure rfl rfl rfl rfl (fun H hH => yv_move rfl rfl) ?_
  refine de_pure rfl rfl rfl rfl (fun H hH => yv_extract rfl rfl rfl) ?_
  refine de_pure rfl rfl rfl rfl (fun H hH => yv_extract rfl rfl rfl) ?_
  refine de_pure rfl rfl rfl rfl (fun H hH => yv_assign rfl rfl) ?_
  refine de_pure rfl rfl rfl rfl (fun H hH => yv_assign rfl rfl) ?_
  refine de_nil (hK _ ?_)
  refine tc tbk 1 (.mk ?_)
  refine c_drawE [0, 1, 0, 0, 12, 28, 60, 127, 255, 511, 511, 1023, 4095] (fun i => bif Nat.beq i 0 then ([2]) else bif Nat.beq i 1 then ([2]) else []) (fun i => [2]) (fun i => true) [0, 1, 2, 3, 4, 5, 6, 7, 8, 9, 10, 11, 12] mixed (by kernel_rfl) ?_; intro K hK
  refine de_pure rfl rfl rfl rfl (fun H hH => yv_fieldAddr rfl fo46_2 rfl (.pt ((hH _ (by decide)).trans rfl) rfl rfl) (.pt _ _ _ _ _)) ?_
  refine de_pure rfl rfl rfl rfl (fun H hH => yv_load rfl sh3 rfl (.pt ((hH _ (by decide)).trans rfl) rfl rfl) rfl) ?_
  refine de_pure rfl rfl rfl rfl (fun H hH => yv_move rfl rfl) ?_
  refine de_pure rfl rfl rfl rfl (fun H hH => yv_move rfl rfl) ?_
  obtain ⟨x10, e10, h1⟩ := bind_e h1
  refine de_pure rfl rfl rfl rfl (fun H hH => yv_ixT rfl Tryz.underlying66 sh46 rfl rfl e10) ?_
  refine de_pure rfl rfl rfl rfl (fun H hH => yv_fieldAddr rfl fo46_2 rfl (.pp _) (.pp _ _)) ?_
  refine de_pure rfl rfl rfl rfl (fun H hH => yv_load rfl sh3 rfl (.pp _) rfl) ?_
  obtain ⟨x11, e11, h1⟩ := bind_e h1
  refine de_pure rfl rfl rfl rfl (fun H hH => yv_callP rfl rfl (.cons rfl (.cons rfl .nil)) cal90 (CvL.refl _) (d_ref01_Add_c e11)) ?_
  refine de_pure rfl rfl rfl rfl (fun H hH => yv_move rfl rfl) ?_
  refine de_pure rfl rfl rfl rfl (fun H hH => yv_extract rfl rfl rfl) ?_
  refine de_pure rfl rfl rfl rfl (fun H hH => yv_extract rfl rfl rfl) ?_
  refine de_pure rfl rfl rfl rfl (fun H hH => yv_assign rfl rfl) ?_
  refine de_pure rfl rfl rfl rfl (fun H hH => yv_assign rfl rfl) ?_
  refine de_nil (hK _ ?_)
  refine tc tbk 2 (.mk ?_)
  refine jn h1 [0, 2, 3, 4, 5, 6, 8, 10] [1, 2] (fun (a : Bool) (k : Unit) => [(60, boo a)]) (fun a k => []) ⟨fun j12 h2 => ?_, ?_⟩
  refine tc tbk 2 (.mk ?_)
  refine nb tbk h2 fun x13 h2 => ?_
  refine tr tbk 1 (.mk ?_)
  cases x13
  replace h2 := cf h2
  refine tr tbk 1 (.mk ?_)
  refine nb tbk h2 fun x14 h2 => ?_
  refine tr tbk 2 (.mk ?_)
  cases x14
  replace h2 := cf h2
  refine tr tbk 1 (.mk ?_)
  refine nb tbk h2 fun x15 h2 => ?_
  refine tr tbk 2 (.mk ?_)
  exact lf h2 () leA
  replace h2 := ct h2
  refine tr tbk 4 (.mk ?_)
  exact lf h2 () leA
  replace h2 := ct h2
  refine tr tbk 8 (.mk ?_)
  exact lf h2 () leA
  rintro y1_1 _ h1
  cases y1_1
  replace h1 := cf h1
  refine tc tbk 7 (.mk ?_)
  refine rsstore rfl rfl (yl_ob (ob' := (⟨46, 3, true, true, v3, [[int x7.1, int x9.1, int x11.1]]⟩ : AObj)) (yl_store rfl sh46 rfl rfl rfl rfl rfl rfl rfl rfl rfl) rfl) ?_
  refine tr tbk 4 (.mk ?_)
  refine ni tbk h1 fun x16 h1 => ?_
  refine tr tbk 2 (.mk ?_)
  exact bk (x16, (⟨x7.1, x9.1, x11.1⟩ : GLayer)) () h1 leA
  replace h1 := ct h1
  refine tc tbk 4 (.mk ?_)
  refine rsstore rfl rfl (yl_ob (ob' := (⟨46, 3, true, true, v2, [[int 0, int 0, int 0]]⟩ : AObj)) (yl_store rfl sh46 rfl rfl rfl rfl rfl rfl rfl rfl rfl) rfl) ?_
  refine tr tbk 2 (.mk ?_)
  obtain ⟨c17, hX, hj⟩ := esc_e h1; subst hj; replace h0 := hX.trans (sel_r h0)
  obtain rfl := nxt_e h0
  refine w_ret (hret _ _ _ (.cell rfl (.pt rfl rfl rfl) sh46 rfl (.tmp rfl .nil)) (fun _ _ h => h) ?_)
  exact .refl _
  rintro y2_1 _ h0
  refine tc tbk 3 (.mk ?_)
  refine rsstore rfl rfl (yl_ob (ob' := (⟨46, 3, true, true, v2, [[int y2_1.Qty, int y2_1.Value, int y2_1.Profit]]⟩ : AObj)) (yl_store rfl sh46 rfl rfl rfl rfl rfl rfl rfl rfl rfl) rfl) ?_
  refine tr tbk 2 (.mk ?_)
  obtain rfl := nxt_e h0
  refine w_ret (hret _ _ _ (.cell rfl (.pt rfl rfl rfl) sh46 rfl (.tmp rfl .nil)) (fun _ _ h => h) ?_)
  exact .refl _
def d_ref13_Total (n : Nat) (a1 : GPool) : Option (GLayer) :=
(d_ref09_Total n a1.Layers).bind fun (x4 : GLayer × Int) =>
some ((x4.1 : GLayer))
theorem d_ref13_Total_c {n : Nat} {a1 : GPool} {r : GLayer} (h0 : d_ref13_Total n a1 = some r) : PP Tryz.prog 85 [.agg (GPool.av a1)] (fun y => y = .agg (GLayer.av r)) := by
  unfold d_ref13_Total at h0
  refine pp_of_pc (R0 := fun y H => Cv (frzH H) y (.agg (GLayer.av r))) ?_ (fun y H hc => ⟨_, rfl, (fun (a : GLayer) => PV.agg (GLayer.pvc a)) r, hc⟩)
  refine pcw (c := _) Tryz.func85 rfl rfl ?_; intro Q hret hnorm
  refine tc tbk 2 (.mk ?_)
  refine rse rfl rfl rfl (yl_box 1 .any rfl rfl rfl) ?_; rintro _ _ ⟨v2, -, rfl, rfl⟩
  refine rse rfl rfl rfl (yl_alloc 2 .any rfl z46 rfl) ?_; rintro _ _ ⟨v3, -, rfl, rfl⟩
  refine tr tbk 5 (.mk ?_)
  obtain ⟨x4, e4, h0⟩ := bind_e h0
  refine rst rfl rfl rfl (yv_callP rfl rfl (.cons rfl .nil) cal131 (CvL.refl _) (d_ref09_Total_c e4)) ?_
  refine tr tbk 3 (.mk ?_)
  refine rse rfl rfl rfl (yl_alloc 3 .any rfl z46 rfl) ?_; rintro _ _ ⟨v5, -, rfl, rfl⟩
  refine rsstore rfl rfl (yl_ob (ob' := (⟨46, 3, true, true, v5, [[int x4.1.Qty, int x4.1.Value, int x4.1.Profit]]⟩ : AObj)) (yl_store rfl sh46 rfl rfl rfl rfl rfl rfl rfl rfl rfl) rfl) ?_
  refine tr tbk 5 (.mk ?_)
  refine rsstore rfl rfl (yl_ob (ob' := (⟨46, 3, true, true, v3, [[int x4.1.Qty, int x4.1.Value, int x4.1.Profit]]⟩ : AObj)) (yl_store rfl sh46 rfl rfl rfl rfl rfl rfl rfl rfl rfl) rfl) ?_
  refine tr tbk 1 (.mk ?_)
  obtain rfl := nxt_e h0
  refine w_ret (hret _ _ _ (.cell rfl (.pt rfl rfl rfl) sh46 rfl .nil) (fun _ _ h => h) ?_)
  exact .refl _
def d_ref01_Sum_L0 (a1 : List Int) : Nat → Int → Int → Option ((Int) ⊕ (Int × Int))
  | 0, _, _ => none
  | n + 1, y0_1, y0_2 =>
    bnd (decide (y0_2 < (a1.length : Int))) fun (x3 : Bool) =>
    cond x3 ((ix a1 y0_2).bind fun (x4 : Int) =>
    (d_ref01_Add y0_1 x4).bind fun (x5 : Int × Int) =>
    bnd (decide (x5.2 ≠ 0)) fun (x6 : Bool) =>
    cond x6 (esc (some ((0 : Int), (x5.2 : Int)))) (bnd (w64 (y0_2 + 1)) fun (x7 : Int) =>
    d_ref01_Sum_L0 a1 n (x5.1 : Int) (x7 : Int))) (brk (y0_1 : Int))
def d_ref01_Sum (n : Nat) (a1 : List Int) : Option (Int × Int) :=
(show Option ((Int) ⊕ (Int × Int)) from
d_ref01_Sum_L0 a1 n (0 : Int) (0 : Int)).bind <| sel <| fun (y1_1 : Int) =>
some ((y1_1 : Int), (0 : Int))
theorem d_ref01_Sum_c {n : Nat} {a1 : List Int} {r : Int × Int} (h0 : d_ref01_Sum n a1 = some r) : PP Tryz.prog 51 [lst 1 fI a1] (fun y => y = .tup [int r.1, int r.2]) := by
  unfold d_ref01_Sum at h0
  refine pp_of_pc (R0 := fun y H => Cv (frzH H) y (.tup [int r.1, int r.2])) ?_ (fun y H hc => ⟨_, rfl, .tup (pvl2 (pvI (r.1)) (pvI (r.2))), hc⟩)
  refine pcw (c := _) Tryz.func51 rfl rfl ?_; intro Q hret hnorm
  refine tc tbk 14 (.mk ?_)
  refine jnE h0 [2, 3] [] (fun (a : Int) (k : Unit) => [(4, int a)]) (fun a k => []) ⟨fun j2 h1 h0 => ?_, ?_⟩
  refine tc tbk 1 (.mk ?_)
  refine lp (fun n (a : Int × Int) => d_ref01_Sum_L0 a1 n a.1 a.2) ((0 : Int), (0 : Int)) () h1 [0, 2, 3] [] (fun (a : Int × Int) (k : Unit) => [(4, int a.1), (5, int a.2)]) (fun a k => []) (fun _ => rfl) ⟨leA, ?_⟩
  rintro n ⟨y0_1, y0_2⟩ _ hm h1
  replace h1 : d_ref01_Sum_L0 a1 (n + 1) y0_1 y0_2 = some _ := h1
  rw [d_ref01_Sum_L0] at h1
  refine tc tbk 5 (.mk ?_)
  refine rst rfl rfl rfl (yv_len_sl rfl Tryz.underlying23 rfl (lst_len _)) ?_
  refine nb tbk h1 fun x3 h1 => ?_
  refine tr tbk 1 (.mk ?_)
  cases x3
  replace h1 := cf h1
  refine tc tbk 2 (.mk ?_)
  exact lfE h1 () leA
  replace h1 := ct h1
  refine tc tbk 9 (.mk ?_)
  obtain ⟨x4, e4, h1⟩ := bind_e h1
  refine rst rfl rfl rfl (yv_ixT rfl Tryz.underlying23 sh3 rfl rfl e4) ?_
  refine tr tbk 1 (.mk ?_)
  obtain ⟨x5, e5, h1⟩ := bind_e h1
  refine rst rfl rfl rfl (yv_callP rfl rfl (.cons rfl (.cons rfl .nil)) cal90 (CvL.refl _) (d_ref01_Add_c e5)) ?_
  refine tr tbk 10 (.mk ?_)
  refine nb tbk h1 fun x6 h1 => ?_
  refine tr tbk 1 (.mk ?_)
  cases x6
  replace h1 := cf h1
  refine tc tbk 9 (.mk ?_)
  refine ni tbk h1 fun x7 h1 => ?_
  refine tr tbk 2 (.mk ?_)
  exact bk (x5.1, x7) () h1 leA
  replace h1 := ct h1
  refine tc tbk 7 (.mk ?_)
  obtain ⟨c8, hX, hj⟩ := esc_e h1; subst hj; replace h0 := hX.trans (sel_r h0)
  obtain rfl := nxt_e h0
  refine w_ret (hret _ _ _ (.tmp rfl (.tmp rfl .nil)) (fun _ _ h => h) ?_)
  exact .refl _
  rintro y1_1 _ h0
  refine tc tbk 6 (.mk ?_)
  obtain rfl := nxt_e h0
  refine w_ret (hret _ _ _ (.tmp rfl (.tmp rfl .nil)) (fun _ _ h => h) ?_)
  exact .refl _
def d_ref14_worth_L0 (a1 : GState) (a2 : Int) (a3 : Int) : Nat → Int → (List Int) → (List Int) → (List Int) → Option ((List Int) × (List Int) × (List Int))
  | 0, _, _, _, _ => none
  | n + 1, y0_4, y0_5, y0_6, y0_7 =>
    bnd (decide (y0_4 < 2)) fun (x10 : Bool) =>
    cond x10 ((d_ref14_At a1 a2 a3 y0_4).bind fun (x11 : GPool) =>
    (d_ref13_Total n x11).bind fun (x12 : GLayer) =>
    bnd (y0_5 ++ ([x12.Qty] : List Int)) fun (x14 : List Int) =>
    asrt (x14.length ≤ 68719476736) <|
    bnd (y0_6 ++ ([x12.Value] : List Int)) fun (x17 : List Int) =>
    asrt (x17.length ≤ 68719476736) <|
    bnd (y0_7 ++ ([x12.Profit] : List Int)) fun (x20 : List Int) =>
    asrt (x20.length ≤ 68719476736) <|
    bnd (w64 (y0_4 + 1)) fun (x23 : Int) =>
    d_ref14_worth_L0 a1 a2 a3 n (x23 : Int) (x14 : List Int) (x17 : List Int) (x20 : List Int)) (some ((y0_5 : List Int), (y0_6 : List Int), (y0_7 : List Int)))
def d_ref14_worth (n : Nat) (a1 : GState) (a2 : Int) (a3 : Int) : Option (GLayer × Int) :=
(show Option ((List Int) × (List Int) × (List Int)) from
d_ref14_worth_L0 a1 a2 a3 n (0 : Int) (([] : List Int) : List Int) (([] : List Int) : List Int) (([] : List Int) : List Int)).bind <| p2 fun (y1_4 : List Int) (q0 : (List Int) × (List Int)) => (p2 fun (y1_5 : List Int) (y1_6 : List Int) =>
(d_ref01_Sum n y1_4).bind fun (x24 : Int × Int) =>
(d_ref01_Sum n y1_5).bind fun (x25 : Int × Int) =>
(d_ref01_Sum n y1_6).bind fun (x26 : Int × Int) =>
bnd (if x26.2 > (if x25.2 > x24.2 then x25.2 else x24.2) then x26.2 else (if x25.2 > x24.2 then x25.2 else x24.2)) fun (x27 : Int) =>
some (((⟨x24.1, x25.1, x26.1⟩ : GLayer) : GLayer), (x27 : Int))) q0
theorem d_ref14_worth_c {n : Nat} {a1 : GState} {a2 : Int} {a3 : Int} {r : GLayer × Int} (h0 : d_ref14_worth n a1 a2 a3 = some r) : PP Tryz.prog 47 [.agg (GState.av a1), int a2, int a3] (fun y => y = .tup [.agg (GLayer.av r.1), int r.2]) := by
  unfold d_ref14_worth at h0
  refine pp_of_pc (R0 := fun y H => Cv (frzH H) y (.tup [.agg (GLayer.av r.1), int r.2])) ?_ (fun y H hc => ⟨_, rfl, .tup (pvl2 ((fun (a : GLayer) => PV.agg (GLayer.pvc a)) (r.1)) (pvI (r.2))), hc⟩)
  refine pcw (c := _) Tryz.func47 rfl rfl ?_; intro Q hret hnorm
  refine tc tbk 2 (.mk ?_)
  refine rse rfl rfl rfl (yl_box 1 .any rfl rfl rfl) ?_; rintro _ _ ⟨v4, -, rfl, rfl⟩
  refine rse rfl rfl rfl (yl_alloc 2 .any rfl z46 rfl) ?_; rintro _ _ ⟨v5, -, rfl, rfl⟩
  refine tr tbk 13 (.mk ?_)
  refine jn h0 [6, 7] [2] (fun (a : (List Int) × (List Int) × (List Int)) (k : Nat × Nat × Nat) => [(8, .sl 7 k.1 0 a.1.length), (9, .sl 8 k.2.1 0 a.2.1.length), (10, .sl 9 k.2.2 0 a.2.2.length)]) (fun a k => [(7, ⟨3, 1, true, true, k.1, a.1.map fI⟩), (8, ⟨3, 1, true, true, k.2.1, a.2.1.map fI⟩), (9, ⟨3, 1, true, true, k.2.2, a.2.2.map fI⟩)]) ⟨fun j6 h1 => ?_, ?_⟩
  refine tc tbk 1 (.mk ?_)
  refine c_nilobj 8 7 3 1 rfl rfl ?_; intro v7
  refine c_nilobj 9 8 3 1 rfl rfl ?_; intro v8
  refine c_nilobj 10 9 3 1 rfl rfl ?_; intro v9
  refine lp (fun n (a : Int × (List Int) × (List Int) × (List Int)) => d_ref14_worth_L0 a1 a2 a3 n a.1 a.2.1 a.2.2.1 a.2.2.2) ((0 : Int), (([] : List Int) : List Int), (([] : List Int) : List Int), (([] : List Int) : List Int)) (v7, v8, v9) h1 [1, 2, 3, 6, 7] [1, 2] (fun (a : Int × (List Int) × (List Int) × (List Int)) (k : Nat × Nat × Nat) => [(8, .sl 7 k.1 0 a.2.1.length), (9, .sl 8 k.2.1 0 a.2.2.1.length), (10, .sl 9 k.2.2 0 a.2.2.2.length), (11, int a.1)]) (fun a k => [(7, ⟨3, 1, true, true, k.1, a.2.1.map fI⟩), (8, ⟨3, 1, true, true, k.2.1, a.2.2.1.map fI⟩), (9, ⟨3, 1, true, true, k.2.2, a.2.2.2.map fI⟩)]) (fun _ => rfl) ⟨leA, ?_⟩
  rintro n ⟨y0_4, y0_5, y0_6, y0_7⟩ ⟨w0_1, w0_2, w0_3⟩ hm h1
  replace h1 : d_ref14_worth_L0 a1 a2 a3 (n + 1) y0_4 y0_5 y0_6 y0_7 = some _ := h1
  rw [d_ref14_worth_L0] at h1
  refine tc tbk 4 (.mk ?_)
  refine nb tbk h1 fun x10 h1 => ?_
  refine tr tbk 1 (.mk ?_)
  cases x10
  replace h1 := cf h1
  refine tc tbk 2 (.mk ?_)
  exact lf h1 (w0_1, w0_2, w0_3) leA
  replace h1 := ct h1
  refine tc tbk 10 (.mk ?_)
  obtain ⟨x11, e11, h1⟩ := bind_e h1
  refine rst rfl rfl rfl (yv_callP rfl rfl (.cons rfl (.cons rfl (.cons rfl (.cons rfl .nil)))) cal31 (CvL.refl _) (d_ref14_At_c e11)) ?_
  obtain ⟨x12, e12, h1⟩ := bind_e h1
  refine rst rfl rfl rfl (yv_callP rfl rfl (.cons rfl .nil) cal85 (CvL.refl _) (d_ref13_Total_c e12)) ?_
  refine rse rfl rfl rfl (yl_alloc 3 .any rfl z46 rfl) ?_; rintro _ _ ⟨v13, -, rfl, rfl⟩
  refine rsstore rfl rfl (yl_ob (ob' := (⟨46, 3, true, true, v13, [[int x12.Qty, int x12.Value, int x12.Profit]]⟩ : AObj)) (yl_store rfl sh46 rfl rfl rfl rfl rfl rfl rfl rfl rfl) rfl) ?_
  refine tr tbk 1 (.mk ?_)
  refine c_drawE [0, 0, 2, 6, 15, 0, 0, 64, 192, 511, 0, 0, 2048, 6144, 16383, 32767, 65535, 131071] (fun i => bif Nat.beq i 1 then ([3]) else bif Nat.beq i 2 then ([3]) else bif Nat.beq i 6 then ([3]) else bif Nat.beq i 7 then ([3]) else bif Nat.beq i 11 then ([3]) else bif Nat.beq i 12 then ([3]) else []) (fun i => bif Nat.beq i 14 then ([]) else [3]) (fun i => bif Nat.beq i 4 then (false) else bif Nat.beq i 9 then (false) else bif Nat.beq i 14 then (false) else true) [0, 1, 2, 3, 5, 6, 7, 8, 10, 11, 12, 13, 4, 9, 14, 15, 16, 17] mixed (by kernel_rfl) ?_; intro K hK
  refine de_pure rfl rfl rfl rfl (fun H hH => yv_move rfl rfl) ?_
  refine de_pure rfl rfl rfl rfl (fun H hH => yv_fieldAddr rfl fo46_0 rfl (.pt ((hH _ (by decide)).trans rfl) rfl rfl) (.pt _ _ _ _ _)) ?_
  refine de_pure rfl rfl rfl rfl (fun H hH => yv_load rfl sh3 rfl (.pt ((hH _ (by decide)).trans rfl) rfl rfl) rfl) ?_
  refine de_pure rfl rfl rfl rfl (fun H hH => yv_to (y := lst 1 fI ([x12.Qty] : List Int)) (yv_buildSlice (ps := [(0, _)]) (rows := [[int x12.Qty]]) rfl Tryz.underlying23 bz3 (.cons rfl .nil) (by kernel_rfl) rfl rfl rfl) rfl) ?_
  refine de_pure rfl rfl rfl rfl (fun H hH => yv_move rfl rfl) ?_
  refine de_pure rfl rfl rfl rfl (fun H hH => yv_fieldAddr rfl fo46_1 rfl (.pt ((hH _ (by decide)).trans rfl) rfl rfl) (.pt _ _ _ _ _)) ?_
  refine de_pure rfl rfl rfl rfl (fun H hH => yv_load rfl sh3 rfl (.pt ((hH _ (by decide)).trans rfl) rfl rfl) rfl) ?_
  refine de_pure rfl rfl rfl rfl (fun H hH => yv_to (y := lst 1 fI ([x12.Value] : List Int)) (yv_buildSlice (ps := [(0, _)]) (rows := [[int x12.Value]]) rfl Tryz.underlying23 bz3 (.cons rfl .nil) (by kernel_rfl) rfl rfl rfl) rfl) ?_
  refine de_pure rfl rfl rfl rfl (fun H hH => yv_move rfl rfl) ?_
  refine de_pure rfl rfl rfl rfl (fun H hH => yv_fieldAddr rfl fo46_2 rfl (.pt ((hH _ (by decide)).trans rfl) rfl rfl) (.pt _ _ _ _ _)) ?_
  refine de_pure rfl rfl rfl rfl (fun H hH => yv_load rfl sh3 rfl (.pt ((hH _ (by decide)).trans rfl) rfl rfl) rfl) ?_
  refine de_pure rfl rfl rfl rfl (fun H hH => yv_to (y := lst 1 fI ([x12.Profit] : List Int)) (yv_buildSlice (ps := [(0, _)]) (rows := [[int x12.Profit]]) rfl Tryz.underlying23 bz3 (.cons rfl .nil) (by kernel_rfl) rfl rfl rfl) rfl) ?_
  obtain ⟨x14, e14, h1⟩ := bnd_e h1
  obtain ⟨p15, h1⟩ := asrt_e h1
  refine de_eff rfl rfl rfl rfl (yl_appT (g := fI) (l := y0_5) (m := ([x12.Qty] : List Int)) .any rfl Tryz.underlying23 bz3 by3 rfl rfl rfl rfl rfl rfl rfl rfl rfl rfl (Eq.symm rfl) (.refl _) (fun _ => rfl) e14 p15) (by rintro _ _ ⟨v16, -, rfl, rfl⟩; exact ⟨rfl, trivial⟩) ?_; rintro _ _ ⟨v16, -, rfl, rfl⟩
  obtain ⟨x17, e17, h1⟩ := bnd_e h1
  obtain ⟨p18, h1⟩ := asrt_e h1
  refine de_eff rfl rfl rfl rfl (yl_appT (g := fI) (l := y0_6) (m := ([x12.Value] : List Int)) .any rfl Tryz.underlying23 bz3 by3 rfl rfl rfl rfl rfl rfl rfl rfl rfl rfl (Eq.symm rfl) (.refl _) (fun _ => rfl) e17 p18) (by rintro _ _ ⟨v19, -, rfl, rfl⟩; exact ⟨rfl, trivial⟩) ?_; rintro _ _ ⟨v19, -, rfl, rfl⟩
  obtain ⟨x20, e20, h1⟩ := bnd_e h1
  obtain ⟨p21, h1⟩ := asrt_e h1
  refine de_eff rfl rfl rfl rfl (yl_appT (g := fI) (l := y0_7) (m := ([x12.Profit] : List Int)) .any rfl Tryz.underlying23 bz3 by3 rfl rfl rfl rfl rfl rfl rfl rfl rfl rfl (Eq.symm rfl) (.refl _) (fun _ => rfl) e20 p21) (by rintro _ _ ⟨v22, -, rfl, rfl⟩; exact trivial) ?_; rintro _ _ ⟨v22, -, rfl, rfl⟩
  refine de_pure rfl rfl rfl rfl (fun H hH => yv_assign rfl rfl) ?_
  refine de_pure rfl rfl rfl rfl (fun H hH => yv_assign rfl rfl) ?_
  refine de_pure rfl rfl rfl rfl (fun H hH => yv_assign rfl rfl) ?_
  refine de_nil (hK _ ?_)
  refine tc tbk 3 (.mk ?_)
  refine ni tbk h1 fun x23 h1 => ?_
  refine tr tbk 2 (.mk ?_)
  exact bk (x23, x14, x17, x20) (v16, v19, v22) h1 leA
  rintro ⟨y1_4, y1_5, y1_6⟩ ⟨w1_1, w1_2, w1_3⟩ h0
  replace h0 := p2_e h0
  replace h0 := p2_e h0
  refine tc tbk 3 (.mk ?_)
  obtain ⟨x24, e24, h0⟩ := bind_e h0
  refine rst rfl rfl rfl (yv_callT (v := .tup [int x24.1, int x24.2]) rfl rfl (.cons rfl .nil) cal51 (.cons (cv_lst rfl rfl rfl rfl rfl (Eq.symm rfl)) .nil) (d_ref01_Sum_c e24) rfl) ?_
  refine tr tbk 9 (.mk ?_)
  obtain ⟨x25, e25, h0⟩ := bind_e h0
  refine rst rfl rfl rfl (yv_callT (v := .tup [int x25.1, int x25.2]) rfl rfl (.cons rfl .nil) cal51 (.cons (cv_lst rfl rfl rfl rfl rfl (Eq.symm rfl)) .nil) (d_ref01_Sum_c e25) rfl) ?_
  refine tr tbk 9 (.mk ?_)
  obtain ⟨x26, e26, h0⟩ := bind_e h0
  refine rst rfl rfl rfl (yv_callT (v := .tup [int x26.1, int x26.2]) rfl rfl (.cons rfl .nil) cal51 (.cons (cv_lst rfl rfl rfl rfl rfl (Eq.symm rfl)) .nil) (d_ref01_Sum_c e26) rfl) ?_
  refine tr tbk 15 (.mk ?_)
  obtain ⟨x27, e27, h0⟩ := bnd_e h0
  refine rst rfl rfl rfl (yv_max3 rfl rfl rfl rfl e27) ?_
  refine rsstore rfl rfl (yl_ob (ob' := (⟨46, 3, true, true, v5, [[int x24.1, int x25.1, int x26.1]]⟩ : AObj)) (yl_store rfl sh46 rfl rfl rfl rfl rfl rfl rfl rfl rfl) rfl) ?_
  refine tr tbk 2 (.mk ?_)
  obtain rfl := nxt_e h0
  refine w_ret (hret _ _ _ (.cell rfl (.pt rfl rfl rfl) sh46 rfl (.tmp rfl .nil)) (fun _ _ h => h) ?_)
  exact .refl _
def d_ref14_Worth (n : Nat) (a1 : GState) (a2 : Int) (a3 : Int) : Option (GLayer) :=
(d_ref14_worth n a1 a2 a3).bind fun (x6 : GLayer × Int) =>
some ((x6.1 : GLayer))
theorem d_ref14_Worth_c {n : Nat} {a1 : GState} {a2 : Int} {a3 : Int} {r : GLayer} (h0 : d_ref14_Worth n a1 a2 a3 = some r) : PP Tryz.prog 18 [.agg (GState.av a1), int a2, int a3] (fun y => y = .agg (GLayer.av r)) := by
  unfold d_ref14_Worth at h0
  refine pp_of_pc (R0 := fun y H => Cv (frzH H) y (.agg (GLayer.av r))) ?_ (fun y H hc => ⟨_, rfl, (fun (a : GLayer) => PV.agg (GLayer.pvc a)) r, hc⟩)
  refine pcw (c := _) Tryz.func18 rfl rfl ?_; intro Q hret hnorm
  refine tc tbk 2 (.mk ?_)
  refine rse rfl rfl rfl (yl_box 1 .any rfl rfl rfl) ?_; rintro _ _ ⟨v4, -, rfl, rfl⟩
  refine rse rfl rfl rfl (yl_alloc 2 .any rfl z46 rfl) ?_; rintro _ _ ⟨v5, -, rfl, rfl⟩
  refine tr tbk 6 (.mk ?_)
  obtain ⟨x6, e6, h0⟩ := bind_e h0
  refine rst rfl rfl rfl (yv_callP rfl rfl (.cons rfl (.cons rfl (.cons rfl .nil))) cal47 (CvL.refl _) (d_ref14_worth_c e6)) ?_
  refine tr tbk 3 (.mk ?_)
  refine rse rfl rfl rfl (yl_alloc 3 .any rfl z46 rfl) ?_; rintro _ _ ⟨v7, -, rfl, rfl⟩
  refine rsstore rfl rfl (yl_ob (ob' := (⟨46, 3, true, true, v7, [[int x6.1.Qty, int x6.1.Value, int x6.1.Profit]]⟩ : AObj)) (yl_store rfl sh46 rfl rfl rfl rfl rfl rfl rfl rfl rfl) rfl) ?_
  refine tr tbk 5 (.mk ?_)
  refine rsstore rfl rfl (yl_ob (ob' := (⟨46, 3, true, true, v5, [[int x6.1.Qty, int x6.1.Value, int x6.1.Profit]]⟩ : AObj)) (yl_store rfl sh46 rfl rfl rfl rfl rfl rfl rfl rfl rfl) rfl) ?_
  refine tr tbk 1 (.mk ?_)
  obtain rfl := nxt_e h0
  refine w_ret (hret _ _ _ (.cell rfl (.pt rfl rfl rfl) sh46 rfl .nil) (fun _ _ h => h) ?_)
  exact .refl _
def d_law15_awake (n : Nat)  : Option (Bool) :=
(d_law15_start n).bind fun (x1 : GState) =>
(d_receive_Do n x1 (⟨1, 0, 0, 0, 0, 10, 100, 0, []⟩ : GOp)).bind fun (x2 : GState × Int) =>
(d_law15_start n).bind fun (x4 : GState) =>
(d_receive_Do n x4 (⟨4, 0, 0, 0, 0, 1, 0, 0, []⟩ : GOp)).bind fun (x5 : GState × Int) =>
(show Option (Bool) from
bnd (decide (x2.2 = 0)) fun (x8 : Bool) =>
cond x8 (bnd (decide ((x2.1.Receipts.length : Int) = 1)) fun (x9 : Bool) =>
cond x9 (bnd (decide ((x2.1.Ents.length : Int) = 2)) fun (x10 : Bool) =>
cond x10 ((ix x2.1.Ents 0).bind fun (x11 : GEnt) =>
(ix x11.Bal 0).bind fun (x12 : Int) =>
bnd (decide (x12 = 100)) fun (x13 : Bool) =>
cond x13 ((ix x2.1.Ents 0).bind fun (x14 : GEnt) =>
(ix x14.Bal 1).bind fun (x15 : Int) =>
bnd (decide (x15 = (-100))) fun (x16 : Bool) =>
cond x16 (bnd (decide (x5.2 = 1)) fun (x17 : Bool) =>
some (x17 : Bool)) (some (false : Bool))) (some (false : Bool))) (some (false : Bool))) (some (false : Bool))) (some (false : Bool))).bind <| fun (y0_1 : Bool) =>
some ((y0_1 : Bool))
theorem d_law15_awake_c {n : Nat}  {r : Bool} (h0 : d_law15_awake n  = some r) : PP Tryz.prog 19 [] (fun y => y = boo r) := by
  unfold d_law15_awake at h0
  refine pp_of_pc (R0 := fun y H => Cv (frzH H) y (boo r)) ?_ (fun y H hc => ⟨_, rfl, pvB r, hc⟩)
  refine pcw (c := _) Tryz.func19 rfl rfl ?_; intro Q hret hnorm
  refine tc tbk 6 (.mk ?_)
  obtain ⟨x1, e1, h0⟩ := bind_e h0
  refine rst rfl rfl rfl (yv_callP rfl rfl .nil cal17 (CvL.refl _) (d_law15_start_c e1)) ?_
  refine tr tbk 1 (.mk ?_)
  obtain ⟨x2, e2, h0⟩ := bind_e h0
  refine rst rfl rfl rfl (yv_callP rfl rfl (.cons rfl (.cons rfl .nil)) cal16 (.cons (.refl _) (.cons (CvL.agg (.cons (.refl _) (.cons (.refl _) (.cons (.refl _) (.cons (.refl _) (.cons (.refl _) (.cons (.refl _) (.cons (.refl _) (.cons (.refl _) (.cons (.nil _) .nil)))))))))) .nil)) (d_receive_Do_c e2)) ?_
  refine tr tbk 3 (.mk ?_)
  refine rse rfl rfl rfl (yl_alloc 1 .any rfl z32 rfl) ?_; rintro _ _ ⟨v3, -, rfl, rfl⟩
  refine rsstore rfl rfl (yl_ob (ob' := (⟨32, 10, true, true, v3, [[int x2.1.Master.Entities, int x2.1.Master.Periods, lst 1 fI x2.1.Master.Weights, lst 1 (fL 1 fI) x2.1.Master.Methods, lst 1 (fL 1 fI) x2.1.Master.Costs, lst 8 GEnt.av x2.1.Ents, lst 8 GReceipt.av x2.1.Receipts, lst 9 GSale.av x2.1.Sales, lst 6 GTransit.av x2.1.Transits, int x2.1.Done]]⟩ : AObj)) (yl_store rfl sh32 rfl rfl rfl rfl rfl rfl rfl rfl rfl) rfl) ?_
  refine tr tbk 4 (.mk ?_)
  obtain ⟨x4, e4, h0⟩ := bind_e h0
  refine rst rfl rfl rfl (yv_callP rfl rfl .nil cal17 (CvL.refl _) (d_law15_start_c e4)) ?_
  refine tr tbk 1 (.mk ?_)
  obtain ⟨x5, e5, h0⟩ := bind_e h0
  refine rst rfl rfl rfl (yv_callP rfl rfl (.cons rfl (.cons rfl .nil)) cal16 (.cons (.refl _) (.cons (CvL.agg (.cons (.refl _) (.cons (.refl _) (.cons (.refl _) (.cons (.refl _) (.cons (.refl _) (.cons (.refl _) (.cons (.refl _) (.cons (.refl _) (.cons (.nil _) .nil)))))))))) .nil)) (d_receive_Do_c e5)) ?_
  refine tr tbk 3 (.mk ?_)
  refine rse rfl rfl rfl (yl_alloc 2 .any rfl z32 rfl) ?_; rintro _ _ ⟨v6, -, rfl, rfl⟩
  refine rsstore rfl rfl (yl_ob (ob' := (⟨32, 10, true, true, v6, [[int x5.1.Master.Entities, int x5.1.Master.Periods, lst 1 fI x5.1.Master.Weights, lst 1 (fL 1 fI) x5.1.Master.Methods, lst 1 (fL 1 fI) x5.1.Master.Costs, lst 8 GEnt.av x5.1.Ents, lst 8 GReceipt.av x5.1.Receipts, lst 9 GSale.av x5.1.Sales, lst 6 GTransit.av x5.1.Transits, int x5.1.Done]]⟩ : AObj)) (yl_store rfl sh32 rfl rfl rfl rfl rfl rfl rfl rfl rfl) rfl) ?_
  refine tr tbk 3 (.mk ?_)
  refine jn h0 [] [] (fun (a : Bool) (k : Unit) => [(0, boo a)]) (fun a k => []) ⟨fun j7 h1 => ?_, ?_⟩
  refine tc tbk 2 (.mk ?_)
  refine nb tbk h1 fun x8 h1 => ?_
  refine tr tbk 1 (.mk ?_)
  cases x8
  replace h1 := cf h1
  refine tr tbk 37 (.mk ?_)
  exact lf h1 () leA
  replace h1 := ct h1
  refine tr tbk 2 (.mk ?_)
  refine rst rfl rfl rfl (yv_len_sl rfl Tryz.underlying28 rfl (lst_len _)) ?_
  refine nb tbk h1 fun x9 h1 => ?_
  refine tr tbk 2 (.mk ?_)
  cases x9
  replace h1 := cf h1
  refine tr tbk 31 (.mk ?_)
  exact lf h1 () leA
  replace h1 := ct h1
  refine tr tbk 2 (.mk ?_)
  refine rst rfl rfl rfl (yv_len_sl rfl Tryz.underlying27 rfl (lst_len _)) ?_
  refine nb tbk h1 fun x10 h1 => ?_
  refine tr tbk 2 (.mk ?_)
  cases x10
  replace h1 := cf h1
  refine tr tbk 25 (.mk ?_)
  exact lf h1 () leA
  replace h1 := ct h1
  refine tr tbk 2 (.mk ?_)
  obtain ⟨x11, e11, h1⟩ := bind_e h1
  refine rst rfl rfl rfl (yv_to (y := .pp [int x11.Now, boo x11.Closed, lst 4 GPool.av x11.Pools, lst 1 fI x11.Bal, lst 11 GRoll.av x11.Rolls, lst 1 fI x11.Prices, lst 1 fI x11.Down, lst 8 GEnt.av x11.Ahead]) (yv_ixT rfl Tryz.underlying27 sh42 rfl rfl e11) (congrArg AV.pp (GEnt.av_eq x11))) ?_
  refine tr tbk 2 (.mk ?_)
  obtain ⟨x12, e12, h1⟩ := bind_e h1
  refine rst rfl rfl rfl (yv_ixT rfl Tryz.underlying23 sh3 rfl rfl e12) ?_
  refine tr tbk 1 (.mk ?_)
  refine nb tbk h1 fun x13 h1 => ?_
  refine tr tbk 2 (.mk ?_)
  cases x13
  replace h1 := cf h1
  refine tr tbk 15 (.mk ?_)
  exact lf h1 () leA
  replace h1 := ct h1
  refine tr tbk 2 (.mk ?_)
  obtain ⟨x14, e14, h1⟩ := bind_e h1
  refine rst rfl rfl rfl (yv_to (y := .pp [int x14.Now, boo x14.Closed, lst 4 GPool.av x14.Pools, lst 1 fI x14.Bal, lst 11 GRoll.av x14.Rolls, lst 1 fI x14.Prices, lst 1 fI x14.Down, lst 8 GEnt.av x14.Ahead]) (yv_ixT rfl Tryz.underlying27 sh42 rfl rfl e14) (congrArg AV.pp (GEnt.av_eq x14))) ?_
  refine tr tbk 2 (.mk ?_)
  obtain ⟨x15, e15, h1⟩ := bind_e h1
  refine rst rfl rfl rfl (yv_ixT rfl Tryz.underlying23 sh3 rfl rfl e15) ?_
  refine tr tbk 1 (.mk ?_)
  refine nb tbk h1 fun x16 h1 => ?_
  refine tr tbk 2 (.mk ?_)
  cases x16
  replace h1 := cf h1
  refine tr tbk 5 (.mk ?_)
  exact lf h1 () leA
  replace h1 := ct h1
  refine tr tbk 1 (.mk ?_)
  refine nb tbk h1 fun x17 h1 => ?_
  refine tr tbk 3 (.mk ?_)
  exact lf h1 () leA
  rintro y0_1 _ h0
  obtain rfl := nxt_e h0
  refine w_ret (hret _ _ _ (.tmp rfl .nil) (fun _ _ h => h) ?_)
  exact .refl _
def d_law15_ReceiveKinds (n : Nat) (a1 : Int) (a2 : Int) (a3 : Int) : Option (Bool) :=
(d_law00_Place a1 4).bind fun (x4 : Int) =>
(d_law00_Place a2 1000).bind fun (x5 : Int) =>
bnd (w64 (1 + x5)) fun (x6 : Int) =>
(d_law00_Place a3 100000).bind fun (x7 : Int) =>
(d_law15_start n).bind fun (x8 : GState) =>
(d_receive_Do n x8 (⟨1, 1, x4, 1, 0, x6, x7, 0, []⟩ : GOp)).bind fun (x9 : GState × Int) =>
(show Option (Bool) from
bnd (decide (x9.2 ≠ 0)) fun (x12 : Bool) =>
cond x12 (some (true : Bool)) (bnd (decide ((x9.1.Ents.length : Int) ≠ 2)) fun (x13 : Bool) =>
cond x13 (some (true : Bool)) (bnd (decide ((x9.1.Receipts.length : Int) ≠ 1)) fun (x14 : Bool) =>
some (x14 : Bool)))).bind <| fun (y0_1 : Bool) =>
cond y0_1 (some ((false : Bool))) (bnd (decide (x4 = 3)) fun (x15 : Bool) =>
(show Option (Int) from
cond x15 (bnd (w64 (10 * x6)) fun (x17 : Int) =>
some (x17 : Int)) (some (x7 : Int))).bind <| fun (y1_1 : Int) =>
(ix x9.1.Ents 1).bind fun (x18 : GEnt) =>
(ix x9.1.Receipts 0).bind fun (x19 : GReceipt) =>
(d_ref14_Worth n x9.1 1 x4).bind fun (x21 : GLayer) =>
(show Option (Bool) from
(ix x18.Bal 0).bind fun (x24 : Int) =>
bnd (decide (x24 = y1_1)) fun (x25 : Bool) =>
cond x25 ((ix x18.Bal 6).bind fun (x26 : Int) =>
bnd (w64 (x7 - y1_1)) fun (x27 : Int) =>
bnd (decide (x26 = x27)) fun (x28 : Bool) =>
cond x28 ((ix x18.Bal 1).bind fun (x29 : Int) =>
bnd (w64 (0 - x7)) fun (x30 : Int) =>
bnd (decide (x29 = x30)) fun (x31 : Bool) =>
cond x31 (bnd (decide (x21.Qty = x6)) fun (x32 : Bool) =>
cond x32 (bnd (decide (x21.Value = y1_1)) fun (x33 : Bool) =>
cond x33 (bnd (decide ((x19 : GReceipt) = ((⟨1, x4, 1, x6, x7, x6, x7, 0⟩ : GReceipt) : GReceipt))) fun (x34 : Bool) =>
cond x34 ((ix x9.1.Ents 1).bind fun (x35 : GEnt) =>
(ix x35.Rolls x4).bind fun (x36 : GRoll) =>
bnd (decide (x36.Bought = y1_1)) fun (x37 : Bool) =>
cond x37 ((d_law15_awake n).bind fun (x38 : Bool) =>
some (x38 : Bool)) (some (false : Bool))) (some (false : Bool))) (some (false : Bool))) (some (false : Bool))) (some (false : Bool))) (some (false : Bool))) (some (false : Bool))).bind <| fun (y2_1 : Bool) =>
some ((y2_1 : Bool)))
theorem d_law15_ReceiveKinds_c {n : Nat} {a1 : Int} {a2 : Int} {a3 : Int} {r : Bool} (h0 : d_law15_ReceiveKinds n a1 a2 a3 = some r) : PP Tryz.prog 3 [int a1, int a2, int a3] (fun y => y = boo r) := by
  unfold d_law15_ReceiveKinds at h0
  refine pp_of_pc (R0 := fun y H => Cv (frzH H) y (boo r)) ?_ (fun y H hc => ⟨_, rfl, pvB r, hc⟩)
  refine pcw (c := _) Tryz.func3 rfl rfl ?_; intro Q hret hnorm
  refine tc tbk 7 (.mk ?_)
  obtain ⟨x4, e4, h0⟩ := bind_e h0
  refine rst rfl rfl rfl (yv_callP rfl rfl (.cons rfl (.cons rfl .nil)) cal15 (CvL.refl _) (d_law00_Place_c e4)) ?_
  refine tr tbk 1 (.mk ?_)
  obtain ⟨x5, e5, h0⟩ := bind_e h0
  refine rst rfl rfl rfl (yv_callP rfl rfl (.cons rfl (.cons rfl .nil)) cal15 (CvL.refl _) (d_law00_Place_c e5)) ?_
  refine ni tbk h0 fun x6 h0 => ?_
  refine tr tbk 1 (.mk ?_)
  obtain ⟨x7, e7, h0⟩ := bind_e h0
  refine rst rfl rfl rfl (yv_callP rfl rfl (.cons rfl (.cons rfl .nil)) cal15 (CvL.refl _) (d_law00_Place_c e7)) ?_
  refine tr tbk 6 (.mk ?_)
  obtain ⟨x8, e8, h0⟩ := bind_e h0
  refine rst rfl rfl rfl (yv_callP rfl rfl .nil cal17 (CvL.refl _) (d_law15_start_c e8)) ?_
  refine tr tbk 4 (.mk ?_)
  obtain ⟨x9, e9, h0⟩ := bind_e h0
  refine rst rfl rfl rfl (yv_callP rfl rfl (.cons rfl (.cons rfl .nil)) cal16 (.cons (.refl _) (.cons (CvL.agg (.cons (.refl _) (.cons (.refl _) (.cons (.refl _) (.cons (.refl _) (.cons (.refl _) (.cons (.refl _) (.cons (.refl _) (.cons (.refl _) (.cons (.nil _) .nil)))))))))) .nil)) (d_receive_Do_c e9)) ?_
  refine tr tbk 3 (.mk ?_)
  refine rse rfl rfl rfl (yl_alloc 1 .any rfl z32 rfl) ?_; rintro _ _ ⟨v10, -, rfl, rfl⟩
  refine rsstore rfl rfl (yl_ob (ob' := (⟨32, 10, true, true, v10, [[int x9.1.Master.Entities, int x9.1.Master.Periods, lst 1 fI x9.1.Master.Weights, lst 1 (fL 1 fI) x9.1.Master.Methods, lst 1 (fL 1 fI) x9.1.Master.Costs, lst 8 GEnt.av x9.1.Ents, lst 8 GReceipt.av x9.1.Receipts, lst 9 GSale.av x9.1.Sales, lst 6 GTransit.av x9.1.Transits, int x9.1.Done]]⟩ : AObj)) (yl_store rfl sh32 rfl rfl rfl rfl rfl rfl rfl rfl rfl) rfl) ?_
  refine tr tbk 4 (.mk ?_)
  refine jn h0 [6, 7, 8, 9, 10] [1] (fun (a : Bool) (k : Unit) => [(45, boo a)]) (fun a k => []) ⟨fun j11 h1 => ?_, ?_⟩
  refine tc tbk 2 (.mk ?_)
  refine nb tbk h1 fun x12 h1 => ?_
  refine tr tbk 1 (.mk ?_)
  cases x12
  replace h1 := cf h1
  refine tr tbk 2 (.mk ?_)
  refine rst rfl rfl rfl (yv_len_sl rfl Tryz.underlying27 rfl (lst_len _)) ?_
  refine nb tbk h1 fun x13 h1 => ?_
  refine tr tbk 2 (.mk ?_)
  cases x13
  replace h1 := cf h1
  refine tr tbk 2 (.mk ?_)
  refine rst rfl rfl rfl (yv_len_sl rfl Tryz.underlying28 rfl (lst_len _)) ?_
  refine nb tbk h1 fun x14 h1 => ?_
  refine tr tbk 2 (.mk ?_)
  exact lf h1 () leA
  replace h1 := ct h1
  refine tr tbk 6 (.mk ?_)
  exact lf h1 () leA
  replace h1 := ct h1
  refine tr tbk 12 (.mk ?_)
  exact lf h1 () leA
  rintro y0_1 _ h0
  cases y0_1
  replace h0 := cf h0
  refine tc tbk 11 (.mk ?_)
  refine nb tbk h0 fun x15 h0 => ?_
  refine tr tbk 1 (.mk ?_)
  refine jn h0 [6, 7, 8, 9, 10] [1] (fun (a : Int) (k : Unit) => [(12, int a)]) (fun a k => []) ⟨fun j16 h1 => ?_, ?_⟩
  cases x15
  replace h1 := cf h1
  refine tc tbk 2 (.mk ?_)
  exact lf h1 () leA
  replace h1 := ct h1
  refine tc tbk 3 (.mk ?_)
  refine ni tbk h1 fun x17 h1 => ?_
  refine tr tbk 2 (.mk ?_)
  exact lf h1 () leA
  rintro y1_1 _ h0
  refine tc tbk 1 (.mk ?_)
  refine c_drawE [0, 1, 3, 7, 15, 0, 32, 96, 224, 0, 543, 2047] (fun i => bif Nat.beq i 0 then ([1]) else bif Nat.beq i 1 then ([1]) else bif Nat.beq i 5 then ([1]) else bif Nat.beq i 6 then ([1]) else []) (fun i => bif Nat.beq i 11 then ([]) else [1]) (fun i => bif Nat.beq i 9 then (false) else bif Nat.beq i 11 then (false) else true) [0, 1, 2, 3, 4, 5, 6, 7, 8, 9, 10, 11] mixed (by kernel_rfl) ?_; intro K hK
  refine de_pure rfl rfl rfl rfl (fun H hH => yv_fieldAddr rfl fo32_1 rfl (.pt ((hH _ (by decide)).trans rfl) rfl rfl) (.pt _ _ _ _ _)) ?_
  refine de_pure rfl rfl rfl rfl (fun H hH => yv_load rfl sh27 rfl (.pt ((hH _ (by decide)).trans rfl) rfl rfl) rfl) ?_
  obtain ⟨x18, e18, h0⟩ := bind_e h0
  refine de_pure rfl rfl rfl rfl (fun H hH => yv_to (y := .pp [int x18.Now, boo x18.Closed, lst 4 GPool.av x18.Pools, lst 1 fI x18.Bal, lst 11 GRoll.av x18.Rolls, lst 1 fI x18.Prices, lst 1 fI x18.Down, lst 8 GEnt.av x18.Ahead]) (yv_ixT rfl Tryz.underlying27 sh42 rfl rfl e18) (congrArg AV.pp (GEnt.av_eq x18))) ?_
  refine de_pure rfl rfl rfl rfl (fun H hH => yv_fieldAddr rfl fo42_3 rfl (.pp _) (.pp _ _)) ?_
  refine de_pure rfl rfl rfl rfl (fun H hH => yv_load rfl sh23 rfl (.pp _) rfl) ?_
  refine de_pure rfl rfl rfl rfl (fun H hH => yv_fieldAddr rfl fo32_2 rfl (.pt ((hH _ (by decide)).trans rfl) rfl rfl) (.pt _ _ _ _ _)) ?_
  refine de_pure rfl rfl rfl rfl (fun H hH => yv_load rfl sh28 rfl (.pt ((hH _ (by decide)).trans rfl) rfl rfl) rfl) ?_
  obtain ⟨x19, e19, h0⟩ := bind_e h0
  refine de_pure rfl rfl rfl rfl (fun H hH => yv_ixT rfl Tryz.underlying28 sh44 rfl rfl e19) ?_
  refine de_pure rfl rfl rfl rfl (fun H hH => yv_load rfl sh44 rfl (.pp _) rfl) ?_
  refine de_eff rfl rfl rfl rfl (yl_alloc 2 .any rfl z44 rfl) (by rintro _ _ ⟨v20, -, rfl, rfl⟩; exact ⟨rfl, trivial⟩) ?_; rintro _ _ ⟨v20, -, rfl, rfl⟩
  refine de_pure rfl rfl rfl rfl (fun H hH => yv_assign rfl rfl) ?_
  refine de_eff0 rfl rfl rfl rfl (Yield.weak (yl_ob (ob' := (⟨44, 8, true, true, v20, [[int x19.Entity, int x19.Item, int x19.Loc, int x19.Qty, int x19.Value, int x19.Open, int x19.Accrued, int x19.Back]]⟩ : AObj)) (yl_store rfl sh44 rfl rfl rfl rfl rfl rfl rfl rfl rfl) rfl) (fun _ h => h) (fun _ _ => trivial)) (by rintro _ _ ⟨rfl, rfl⟩; exact trivial) ?_; rintro _ _ ⟨rfl, rfl⟩
  refine de_nil (hK _ ?_)
  refine tc tbk 4 (.mk ?_)
  obtain ⟨x21, e21, h0⟩ := bind_e h0
  refine rst rfl rfl rfl (yv_callP rfl rfl (.cons rfl (.cons rfl (.cons rfl .nil))) cal18 (CvL.refl _) (d_ref14_Worth_c e21)) ?_
  refine rse rfl rfl rfl (yl_alloc 3 .any rfl z46 rfl) ?_; rintro _ _ ⟨v22, -, rfl, rfl⟩
  refine rsstore rfl rfl (yl_ob (ob' := (⟨46, 3, true, true, v22, [[int x21.Qty, int x21.Value, int x21.Profit]]⟩ : AObj)) (yl_store rfl sh46 rfl rfl rfl rfl rfl rfl rfl rfl rfl) rfl) ?_
  refine tr tbk 2 (.mk ?_)
  refine jn h0 [] [] (fun (a : Bool) (k : Unit) => [(6, boo a)]) (fun a k => []) ⟨fun j23 h1 => ?_, ?_⟩
  refine tc tbk 2 (.mk ?_)
  obtain ⟨x24, e24, h1⟩ := bind_e h1
  refine rst rfl rfl rfl (yv_ixT rfl Tryz.underlying23 sh3 rfl rfl e24) ?_
  refine tr tbk 2 (.mk ?_)
  refine nb tbk h1 fun x25 h1 => ?_
  refine tr tbk 1 (.mk ?_)
  cases x25
  replace h1 := cf h1
  refine tr tbk 56 (.mk ?_)
  exact lf h1 () leA
  replace h1 := ct h1
  refine tr tbk 1 (.mk ?_)
  obtain ⟨x26, e26, h1⟩ := bind_e h1
  refine rst rfl rfl rfl (yv_ixT rfl Tryz.underlying23 sh3 rfl rfl e26) ?_
  refine tr tbk 3 (.mk ?_)
  refine ni tbk h1 fun x27 h1 => ?_
  refine nb tbk h1 fun x28 h1 => ?_
  refine tr tbk 2 (.mk ?_)
  cases x28
  replace h1 := cf h1
  refine tr tbk 47 (.mk ?_)
  exact lf h1 () leA
  replace h1 := ct h1
  refine tr tbk 1 (.mk ?_)
  obtain ⟨x29, e29, h1⟩ := bind_e h1
  refine rst rfl rfl rfl (yv_ixT rfl Tryz.underlying23 sh3 rfl rfl e29) ?_
  refine tr tbk 2 (.mk ?_)
  refine ni tbk h1 fun x30 h1 => ?_
  refine nb tbk h1 fun x31 h1 => ?_
  refine tr tbk 2 (.mk ?_)
  cases x31
  replace h1 := cf h1
  refine tr tbk 39 (.mk ?_)
  exact lf h1 () leA
  replace h1 := ct h1
  refine tr tbk 3 (.mk ?_)
  refine nb tbk h1 fun x32 h1 => ?_
  refine tr tbk 2 (.mk ?_)
  cases x32
  replace h1 := cf h1
  refine tr tbk 33 (.mk ?_)
  exact lf h1 () leA
  replace h1 := ct h1
  refine tr tbk 3 (.mk ?_)
  refine nb tbk h1 fun x33 h1 => ?_
  refine tr tbk 2 (.mk ?_)
  cases x33
  replace h1 := cf h1
  refine tr tbk 27 (.mk ?_)
  exact lf h1 () leA
  replace h1 := ct h1
  refine tr tbk 7 (.mk ?_)
  obtain ⟨x34, e34, h1⟩ := bnd_e h1
  refine rst rfl rfl rfl (yv_aeql (r' := x34) rfl fl44 rfl rfl (.cons (.int Tryz.underlying3) sh3 (.cons (.int Tryz.underlying3) sh3 (.cons (.int Tryz.underlying3) sh3 (.cons (.int Tryz.underlying3) sh3 (.cons (.int Tryz.underlying3) sh3 (.cons (.int Tryz.underlying3) sh3 (.cons (.int Tryz.underlying3) sh3 (.cons (.int Tryz.underlying3) sh3 (.nil _))))))))) ((GReceipt.eqv (x19 : GReceipt) ((⟨1, x4, 1, x6, x7, x6, x7, 0⟩ : GReceipt) : GReceipt)).trans e34)) ?_
  refine tr tbk 2 (.mk ?_)
  cases x34
  replace h1 := cf h1
  refine tr tbk 17 (.mk ?_)
  exact lf h1 () leA
  replace h1 := ct h1
  refine tr tbk 2 (.mk ?_)
  obtain ⟨x35, e35, h1⟩ := bind_e h1
  refine rst rfl rfl rfl (yv_to (y := .pp [int x35.Now, boo x35.Closed, lst 4 GPool.av x35.Pools, lst 1 fI x35.Bal, lst 11 GRoll.av x35.Rolls, lst 1 fI x35.Prices, lst 1 fI x35.Down, lst 8 GEnt.av x35.Ahead]) (yv_ixT rfl Tryz.underlying27 sh42 rfl rfl e35) (congrArg AV.pp (GEnt.av_eq x35))) ?_
  refine tr tbk 3 (.mk ?_)
  obtain ⟨x36, e36, h1⟩ := bind_e h1
  refine rst rfl rfl rfl (yv_ixT rfl Tryz.underlying40 sh49 rfl rfl e36) ?_
  refine tr tbk 3 (.mk ?_)
  refine nb tbk h1 fun x37 h1 => ?_
  refine tr tbk 2 (.mk ?_)
  cases x37
  replace h1 := cf h1
  refine tr tbk 4 (.mk ?_)
  exact lf h1 () leA
  replace h1 := ct h1
  obtain ⟨x38, e38, h1⟩ := bind_e h1
  refine rst rfl rfl rfl (yv_callP rfl rfl .nil cal19 (CvL.refl _) (d_law15_awake_c e38)) ?_
  refine tr tbk 3 (.mk ?_)
  exact lf h1 () leA
  rintro y2_1 _ h0
  obtain rfl := nxt_e h0
  refine w_ret (hret _ _ _ (.tmp rfl .nil) (fun _ _ h => h) ?_)
  exact .refl _
  replace h0 := ct h0
  refine tc tbk 5 (.mk ?_)
  obtain rfl := nxt_e h0
  refine w_ret (hret _ _ _ (.tmp rfl .nil) (fun _ _ h => h) ?_)
  exact .refl _
end Go.Pv
