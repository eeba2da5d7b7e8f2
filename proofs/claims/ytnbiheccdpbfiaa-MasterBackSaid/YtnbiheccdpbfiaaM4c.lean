import Derived.Test.YtnbiheccdpbfiaaM4b
set_option linter.unusedVariables false
namespace Go.Pv
open Go.Proofs
set_option maxRecDepth 10000
def d_law04_awake (n : Nat)  : Option (Bool) :=
(d_law00_Master n 5).bind fun (x1 : GMaster) =>
(d_master_Bytes n x1).bind fun (x3 : (List UInt8)) =>
(d_master_Read n x3).bind fun (x4 : GMaster × Int) =>
(d_master_Start n x1).bind fun (x6 : GState × Int) =>
(show Option (Bool) from
(d_master_Check n x1).bind fun (x9 : Bool) =>
cond x9 (bnd (decide (x4.2 = 0)) fun (x10 : Bool) =>
cond x10 ((d_master_Same n x1 x4.1).bind fun (x11 : Bool) =>
cond x11 (bnd (decide (x6.2 = 0)) fun (x12 : Bool) =>
cond x12 (bnd (decide ((x6.1.Ents.length : Int) = x1.Entities)) fun (x13 : Bool) =>
cond x13 ((d_master_Check n (⟨0, 0, [], [], []⟩ : GMaster)).bind fun (x14 : Bool) =>
bnd (!x14) fun (x15 : Bool) =>
some (x15 : Bool)) (some (false : Bool))) (some (false : Bool))) (some (false : Bool))) (some (false : Bool))) (some (false : Bool))).bind <| fun (y0_1 : Bool) =>
some ((y0_1 : Bool))
theorem d_law04_awake_c {n : Nat}  {r : Bool} (h0 : d_law04_awake n  = some r) : PP Try.prog 25 [] (fun y => y = boo r) := by
  unfold d_law04_awake at h0
  refine pp_of_pc (R0 := fun y H => Cv (frzH H) y (boo r)) ?_ (fun y H hc => ⟨_, rfl, pvB r, hc⟩)
  refine pc_of' (c := _) Try.func25 rfl rfl ?_; intro Q hret hnorm
  refine c_seq ?_
  refine c_reg ?_; intro K hK
  refine st rfl rfl rfl (yv_assign rfl rfl) ?_
  refine rg_nil (hK _ ?_)
  refine c_seq ?_
  refine c_reg ?_; intro K hK
  obtain ⟨x1, e1, h0⟩ := bind_e h0
  refine st rfl rfl rfl (yv_callP rfl rfl (.cons rfl .nil) cal37 (CvL.refl _) (d_law00_Master_c e1)) ?_
  refine se rfl rfl rfl (yl_alloc 1 .any rfl z43 rfl) ?_; rintro _ _ ⟨v2, -, rfl, rfl⟩
  refine sstore rfl rfl (yl_ob (ob' := (⟨43, 5, true, true, v2, [[int x1.Entities, int x1.Periods, lst 1 fI x1.Weights, lst 1 (fL 1 fI) x1.Methods, lst 1 (fL 1 fI) x1.Costs]]⟩ : AObj)) (yl_store rfl sh43 rfl rfl rfl rfl rfl rfl rfl rfl rfl) rfl) ?_
  refine rg_nil (hK _ ?_)
  refine c_seq ?_
  refine c_reg ?_; intro K hK
  refine st rfl rfl rfl (yv_load rfl sh43 rfl (.pt rfl rfl rfl) rfl) ?_
  obtain ⟨x3, e3, h0⟩ := bind_e h0
  refine st rfl rfl rfl (yv_callP rfl rfl (.cons rfl .nil) cal34 (CvL.refl _) (d_master_Bytes_c e3)) ?_
  obtain ⟨x4, e4, h0⟩ := bind_e h0
  refine st rfl rfl rfl (yv_callP rfl rfl (.cons rfl .nil) cal26 (CvL.refl _) (d_master_Read_c e4)) ?_
  refine st rfl rfl rfl (yv_move rfl rfl) ?_
  refine st rfl rfl rfl (yv_extract rfl rfl rfl) ?_
  refine st rfl rfl rfl (yv_extract rfl rfl rfl) ?_
  refine se rfl rfl rfl (yl_alloc 2 .any rfl z43 rfl) ?_; rintro _ _ ⟨v5, -, rfl, rfl⟩
  refine sstore rfl rfl (yl_ob (ob' := (⟨43, 5, true, true, v5, [[int x4.1.Entities, int x4.1.Periods, lst 1 fI x4.1.Weights, lst 1 (fL 1 fI) x4.1.Methods, lst 1 (fL 1 fI) x4.1.Costs]]⟩ : AObj)) (yl_store rfl sh43 rfl rfl rfl rfl rfl rfl rfl rfl rfl) rfl) ?_
  refine st rfl rfl rfl (yv_assign rfl rfl) ?_
  refine rg_nil (hK _ ?_)
  refine c_seq ?_
  refine c_reg ?_; intro K hK
  refine st rfl rfl rfl (yv_load rfl sh43 rfl (.pt rfl rfl rfl) rfl) ?_
  obtain ⟨x6, e6, h0⟩ := bind_e h0
  refine st rfl rfl rfl (yv_callP rfl rfl (.cons rfl .nil) cal28 (CvL.refl _) (d_master_Start_c e6)) ?_
  refine st rfl rfl rfl (yv_move rfl rfl) ?_
  refine st rfl rfl rfl (yv_extract rfl rfl rfl) ?_
  refine st rfl rfl rfl (yv_extract rfl rfl rfl) ?_
  refine se rfl rfl rfl (yl_alloc 3 .any rfl z53 rfl) ?_; rintro _ _ ⟨v7, -, rfl, rfl⟩
  refine sstore rfl rfl (yl_ob (ob' := (⟨53, 10, true, true, v7, [[int x6.1.Master.Entities, int x6.1.Master.Periods, lst 1 fI x6.1.Master.Weights, lst 1 (fL 1 fI) x6.1.Master.Methods, lst 1 (fL 1 fI) x6.1.Master.Costs, lst 8 GEnt.av x6.1.Ents, lst 8 GReceipt.av x6.1.Receipts, lst 9 GSale.av x6.1.Sales, lst 6 GTransit.av x6.1.Transits, int x6.1.Done]]⟩ : AObj)) (yl_store rfl sh53 rfl rfl rfl rfl rfl rfl rfl rfl rfl) rfl) ?_
  refine st rfl rfl rfl (yv_assign rfl rfl) ?_
  refine rg_nil (hK _ ?_)
  refine c_seq ?_
  obtain ⟨j8, h1, h0⟩ := bind_e h0
  refine c_regL (fun (a : Bool) (k : Unit) => ⟨kn [(0, boo a)], hk []⟩) (fun a => a = j8) ?_ ?_
  · intro K hK
    refine st rfl rfl rfl (yv_load rfl sh43 rfl (.pt rfl rfl rfl) rfl) ?_
    obtain ⟨x9, e9, h1⟩ := bind_e h1
    refine st rfl rfl rfl (yv_callP rfl rfl (.cons rfl .nil) cal30 (CvL.refl _) (d_master_Check_c e9)) ?_
    refine st rfl rfl rfl (yv_move rfl rfl) ?_
    refine scases 20 rfl ?_ ?_
    · intro hb; subst hb; replace h1 := ct h1
      refine st rfl rfl rfl (yv_move rfl rfl) ?_
      obtain ⟨x10, e10, h1⟩ := bnd_e h1
      refine st rfl rfl rfl (yv_to (y := boo x10) (yv_eql rfl rfl rfl) (congrArg boo e10)) ?_
      refine st rfl rfl rfl (yv_pick rfl rfl (fun _ => rfl) (fun _ => rfl) rfl) ?_
      refine st rfl rfl rfl (yv_move rfl rfl) ?_
      refine scases 24 rfl ?_ ?_
      · intro hb; subst hb; replace h1 := ct h1
        refine st rfl rfl rfl (yv_load rfl sh43 rfl (.pt rfl rfl rfl) rfl) ?_
        refine st rfl rfl rfl (yv_load rfl sh43 rfl (.pt rfl rfl rfl) rfl) ?_
        obtain ⟨x11, e11, h1⟩ := bind_e h1
        refine st rfl rfl rfl (yv_callP rfl rfl (.cons rfl (.cons rfl .nil)) cal32 (CvL.refl _) (d_master_Same_c e11)) ?_
        refine st rfl rfl rfl (yv_pick rfl rfl (fun _ => rfl) (fun _ => rfl) rfl) ?_
        refine st rfl rfl rfl (yv_move rfl rfl) ?_
        refine scases 29 rfl ?_ ?_
        · intro hb; subst hb; replace h1 := ct h1
          refine st rfl rfl rfl (yv_move rfl rfl) ?_
          obtain ⟨x12, e12, h1⟩ := bnd_e h1
          refine st rfl rfl rfl (yv_to (y := boo x12) (yv_eql rfl rfl rfl) (congrArg boo e12)) ?_
          refine st rfl rfl rfl (yv_pick rfl rfl (fun _ => rfl) (fun _ => rfl) rfl) ?_
          refine st rfl rfl rfl (yv_move rfl rfl) ?_
          refine scases 33 rfl ?_ ?_
          · intro hb; subst hb; replace h1 := ct h1
            refine st rfl rfl rfl (yv_fieldAddr rfl fo53_1 rfl (.pt rfl rfl rfl) (.pt _ _ _ _ _)) ?_
            refine st rfl rfl rfl (yv_load rfl sh48 rfl (.pt rfl rfl rfl) rfl) ?_
            refine st rfl rfl rfl (yv_len_sl rfl Try.underlying48 rfl (lst_len _)) ?_
            refine st rfl rfl rfl (yv_fieldAddr rfl fo43_0 rfl (.pt rfl rfl rfl) (.pt _ _ _ _ _)) ?_
            refine st rfl rfl rfl (yv_load rfl sh3 rfl (.pt rfl rfl rfl) rfl) ?_
            obtain ⟨x13, e13, h1⟩ := bnd_e h1
            refine st rfl rfl rfl (yv_to (y := boo x13) (yv_eql rfl rfl rfl) (congrArg boo e13)) ?_
            refine st rfl rfl rfl (yv_pick rfl rfl (fun _ => rfl) (fun _ => rfl) rfl) ?_
            refine st rfl rfl rfl (yv_move rfl rfl) ?_
            refine scases 41 rfl ?_ ?_
            · intro hb; subst hb; replace h1 := ct h1
              refine st rfl rfl rfl (yv_build (cs := [int 0, int 0, .sc (.slice none 0 0), .sc (.slice none 0 0), .sc (.slice none 0 0)]) (ps := []) rfl pl43 z43 rfl .nil (by kernel_rfl)) ?_
              obtain ⟨x14, e14, h1⟩ := bind_e h1
              refine st rfl rfl rfl (yv_callP rfl rfl (.cons rfl .nil) cal30 (.cons (CvL.agg (.cons (.refl _) (.cons (.refl _) (.cons (.nil _) (.cons (.nil _) (.cons (.nil _) .nil)))))) .nil) (d_master_Check_c e14)) ?_
              obtain ⟨x15, e15, h1⟩ := bnd_e h1
              refine st rfl rfl rfl (yv_not rfl rfl e15) ?_
              refine st rfl rfl rfl (yv_pick rfl rfl (fun _ => rfl) (fun _ => rfl) rfl) ?_
              refine st rfl rfl rfl (yv_assign rfl rfl) ?_
              obtain rfl := nxt_e h1
              refine rg_nil (hK _ ⟨x15, (), rfl, leH_kn ⟨⟨_, rfl, (.refl _)⟩, trivial⟩ trivial⟩)
            · intro hb; subst hb; replace h1 := cf h1
              refine sk rfl rfl rfl ?_
              refine sk rfl rfl rfl ?_
              refine sk rfl rfl rfl ?_
              refine st rfl rfl rfl (yv_pick rfl rfl (fun _ => rfl) (fun _ => rfl) rfl) ?_
              refine st rfl rfl rfl (yv_assign rfl rfl) ?_
              obtain rfl := nxt_e h1
              refine rg_nil (hK _ ⟨false, (), rfl, leH_kn ⟨⟨_, rfl, (.refl _)⟩, trivial⟩ trivial⟩)
          · intro hb; subst hb; replace h1 := cf h1
            refine sk rfl rfl rfl ?_
            refine sk rfl rfl rfl ?_
            refine sk rfl rfl rfl ?_
            refine sk rfl rfl rfl ?_
            refine sk rfl rfl rfl ?_
            refine sk rfl rfl rfl ?_
            refine st rfl rfl rfl (yv_pick rfl rfl (fun _ => rfl) (fun _ => rfl) rfl) ?_
            refine st rfl rfl rfl (yv_move rfl rfl) ?_
            refine sk rfl rfl rfl ?_
            refine sk rfl rfl rfl ?_
            refine sk rfl rfl rfl ?_
            refine st rfl rfl rfl (yv_pick rfl rfl (fun _ => rfl) (fun _ => rfl) rfl) ?_
            refine st rfl rfl rfl (yv_assign rfl rfl) ?_
            obtain rfl := nxt_e h1
            refine rg_nil (hK _ ⟨false, (), rfl, leH_kn ⟨⟨_, rfl, (.refl _)⟩, trivial⟩ trivial⟩)
        · intro hb; subst hb; replace h1 := cf h1
          refine sk rfl rfl rfl ?_
          refine sk rfl rfl rfl ?_
          refine st rfl rfl rfl (yv_pick rfl rfl (fun _ => rfl) (fun _ => rfl) rfl) ?_
          refine st rfl rfl rfl (yv_move rfl rfl) ?_
          refine sk rfl rfl rfl ?_
          refine sk rfl rfl rfl ?_
          refine sk rfl rfl rfl ?_
          refine sk rfl rfl rfl ?_
          refine sk rfl rfl rfl ?_
          refine sk rfl rfl rfl ?_
          refine st rfl rfl rfl (yv_pick rfl rfl (fun _ => rfl) (fun _ => rfl) rfl) ?_
          refine st rfl rfl rfl (yv_move rfl rfl) ?_
          refine sk rfl rfl rfl ?_
          refine sk rfl rfl rfl ?_
          refine sk rfl rfl rfl ?_
          refine st rfl rfl rfl (yv_pick rfl rfl (fun _ => rfl) (fun _ => rfl) rfl) ?_
          refine st rfl rfl rfl (yv_assign rfl rfl) ?_
          obtain rfl := nxt_e h1
          refine rg_nil (hK _ ⟨false, (), rfl, leH_kn ⟨⟨_, rfl, (.refl _)⟩, trivial⟩ trivial⟩)
      · intro hb; subst hb; replace h1 := cf h1
        refine sk rfl rfl rfl ?_
        refine sk rfl rfl rfl ?_
        refine sk rfl rfl rfl ?_
        refine st rfl rfl rfl (yv_pick rfl rfl (fun _ => rfl) (fun _ => rfl) rfl) ?_
        refine st rfl rfl rfl (yv_move rfl rfl) ?_
        refine sk rfl rfl rfl ?_
        refine sk rfl rfl rfl ?_
        refine st rfl rfl rfl (yv_pick rfl rfl (fun _ => rfl) (fun _ => rfl) rfl) ?_
        refine st rfl rfl rfl (yv_move rfl rfl) ?_
        refine sk rfl rfl rfl ?_
        refine sk rfl rfl rfl ?_
        refine sk rfl rfl rfl ?_
        refine sk rfl rfl rfl ?_
        refine sk rfl rfl rfl ?_
        refine sk rfl rfl rfl ?_
        refine st rfl rfl rfl (yv_pick rfl rfl (fun _ => rfl) (fun _ => rfl) rfl) ?_
        refine st rfl rfl rfl (yv_move rfl rfl) ?_
        refine sk rfl rfl rfl ?_
        refine sk rfl rfl rfl ?_
        refine sk rfl rfl rfl ?_
        refine st rfl rfl rfl (yv_pick rfl rfl (fun _ => rfl) (fun _ => rfl) rfl) ?_
        refine st rfl rfl rfl (yv_assign rfl rfl) ?_
        obtain rfl := nxt_e h1
        refine rg_nil (hK _ ⟨false, (), rfl, leH_kn ⟨⟨_, rfl, (.refl _)⟩, trivial⟩ trivial⟩)
    · intro hb; subst hb; replace h1 := cf h1
      refine sk rfl rfl rfl ?_
      refine sk rfl rfl rfl ?_
      refine st rfl rfl rfl (yv_pick rfl rfl (fun _ => rfl) (fun _ => rfl) rfl) ?_
      refine st rfl rfl rfl (yv_move rfl rfl) ?_
      refine sk rfl rfl rfl ?_
      refine sk rfl rfl rfl ?_
      refine sk rfl rfl rfl ?_
      refine st rfl rfl rfl (yv_pick rfl rfl (fun _ => rfl) (fun _ => rfl) rfl) ?_
      refine st rfl rfl rfl (yv_move rfl rfl) ?_
      refine sk rfl rfl rfl ?_
      refine sk rfl rfl rfl ?_
      refine st rfl rfl rfl (yv_pick rfl rfl (fun _ => rfl) (fun _ => rfl) rfl) ?_
      refine st rfl rfl rfl (yv_move rfl rfl) ?_
      refine sk rfl rfl rfl ?_
      refine sk rfl rfl rfl ?_
      refine sk rfl rfl rfl ?_
      refine sk rfl rfl rfl ?_
      refine sk rfl rfl rfl ?_
      refine sk rfl rfl rfl ?_
      refine st rfl rfl rfl (yv_pick rfl rfl (fun _ => rfl) (fun _ => rfl) rfl) ?_
      refine st rfl rfl rfl (yv_move rfl rfl) ?_
      refine sk rfl rfl rfl ?_
      refine sk rfl rfl rfl ?_
      refine sk rfl rfl rfl ?_
      refine st rfl rfl rfl (yv_pick rfl rfl (fun _ => rfl) (fun _ => rfl) rfl) ?_
      refine st rfl rfl rfl (yv_assign rfl rfl) ?_
      obtain rfl := nxt_e h1
      refine rg_nil (hK _ ⟨false, (), rfl, leH_kn ⟨⟨_, rfl, (.refl _)⟩, trivial⟩ trivial⟩)
  · rintro y0_1 _ rfl
    refine c_show ⟨kn [(0, boo y0_1)], hk []⟩ ?_
    obtain rfl := nxt_e h0
    refine c_ret (hret _ _ _ (.tmp rfl .nil) (fun _ _ h => h) ?_)
    exact .refl _
def d_law04_MasterBack (n : Nat) (a1 : Int) (a2 : Int) (a3 : Int) (a4 : Int) : Option (Bool) :=
(d_law00_Master n a1).bind fun (x5 : GMaster) =>
(d_master_Bytes n x5).bind fun (x7 : (List UInt8)) =>
(d_master_Read n x7).bind fun (x8 : GMaster × Int) =>
(show Option (Bool) from
bnd (decide (x8.2 ≠ 0)) fun (x11 : Bool) =>
cond x11 (some (true : Bool)) ((d_ref04_Same n x8.1 x5).bind fun (x12 : Bool) =>
bnd (!x12) fun (x13 : Bool) =>
cond x13 (some (true : Bool)) (bnd (decide ((x7.length : Int) < 5)) fun (x14 : Bool) =>
some (x14 : Bool)))).bind <| fun (y0_1 : Bool) =>
cond y0_1 (some ((false : Bool))) (bnd (w64 (a2.tdiv 8)) fun (x15 : Int) =>
(d_law00_Place x15 x5.Entities).bind fun (x16 : Int) =>
bnd (w64 (a2.tdiv 40)) fun (x17 : Int) =>
(d_law00_Place x17 (x5.Weights.length : Int)).bind fun (x18 : Int) =>
bnd (w64 (a2.tdiv 200)) fun (x19 : Int) =>
(d_law00_Place x19 6).bind fun (x20 : Int) =>
(ix ([(-1), 0, 1073741824, 1073741825, 5, a3] : List Int) x20).bind fun (x21 : Int) =>
asrt (x5.Weights.length ≤ 68719476736) <|
asrt (x5.Methods.length ≤ 68719476736) <|
(ix x5.Methods x16).bind fun (x26 : List Int) =>
asrt (x26.length ≤ 68719476736) <|
asrt (x5.Costs.length ≤ 68719476736) <|
(ix x5.Costs x16).bind fun (x31 : List Int) =>
asrt (x31.length ≤ 68719476736) <|
(d_law00_Place a2 8).bind fun (x34 : Int) =>
(show Option (Int × Int × Nat × Nat × (List Int) × Nat × Nat × (List Int) × (List Int)) from
bnd (decide (x34 = 0)) fun (x36 : Bool) =>
cond x36 (some ((x21 : Int), (x5.Periods : Int), (0 : Nat), (x5.Methods.length : Nat), (x5.Weights : List Int), (0 : Nat), (x31.length : Nat), (x26 : List Int), (x31 : List Int))) (bnd (decide (x34 = 1)) fun (x37 : Bool) =>
cond x37 (some ((x5.Entities : Int), (x21 : Int), (0 : Nat), (x5.Methods.length : Nat), (x5.Weights : List Int), (0 : Nat), (x31.length : Nat), (x26 : List Int), (x31 : List Int))) (bnd (decide (x34 = 2)) fun (x38 : Bool) =>
cond x38 ((ix x5.Weights x18).bind fun (x39 : Int) =>
bnd (x5.Weights.set (Int.toNat x18) (x21 : Int)) fun (x40 : List Int) =>
some ((x5.Entities : Int), (x5.Periods : Int), (0 : Nat), (x5.Methods.length : Nat), (x40 : List Int), (0 : Nat), (x31.length : Nat), (x26 : List Int), (x31 : List Int))) (bnd (decide (x34 = 3)) fun (x41 : Bool) =>
cond x41 ((ix x26 x18).bind fun (x42 : Int) =>
bnd (x26.set (Int.toNat x18) (x21 : Int)) fun (x43 : List Int) =>
some ((x5.Entities : Int), (x5.Periods : Int), (0 : Nat), (x5.Methods.length : Nat), (x5.Weights : List Int), (0 : Nat), (x31.length : Nat), (x43 : List Int), (x31 : List Int))) (bnd (decide (x34 = 4)) fun (x44 : Bool) =>
cond x44 ((ix x31 x18).bind fun (x45 : Int) =>
bnd (x31.set (Int.toNat x18) (x21 : Int)) fun (x46 : List Int) =>
some ((x5.Entities : Int), (x5.Periods : Int), (0 : Nat), (x5.Methods.length : Nat), (x5.Weights : List Int), (0 : Nat), (x31.length : Nat), (x26 : List Int), (x46 : List Int))) (bnd (decide (x34 = 5)) fun (x47 : Bool) =>
cond x47 (asrt (0 ≤ 1 ∧ 1 < (x31.length : Int)) <|
some ((x5.Entities : Int), (x5.Periods : Int), (0 : Nat), (x5.Methods.length : Nat), (x5.Weights : List Int), ((0 + 1) : Nat), ((x31.length - 1) : Nat), (x26 : List Int), (x31 : List Int))) (bnd (decide (x34 = 6)) fun (x49 : Bool) =>
cond x49 (asrt (0 ≤ 1 ∧ 1 < (x5.Methods.length : Int)) <|
some ((x5.Entities : Int), (x5.Periods : Int), ((0 + 1) : Nat), ((x5.Methods.length - 1) : Nat), (x5.Weights : List Int), (0 : Nat), (x31.length : Nat), (x26 : List Int), (x31 : List Int))) (bnd (x5.Weights ++ ([1] : List Int)) fun (x51 : List Int) =>
asrt (x51.length ≤ 68719476736) <|
some ((x5.Entities : Int), (x5.Periods : Int), (0 : Nat), (x5.Methods.length : Nat), (x51 : List Int), (0 : Nat), (x31.length : Nat), (x26 : List Int), (x31 : List Int)))))))))).bind <| p2 fun (y1_1 : Int) (q0 : Int × Nat × Nat × (List Int) × Nat × Nat × (List Int) × (List Int)) => (p2 fun (y1_2 : Int) (q1 : Nat × Nat × (List Int) × Nat × Nat × (List Int) × (List Int)) => (p2 fun (y1_4 : Nat) (q2 : Nat × (List Int) × Nat × Nat × (List Int) × (List Int)) => (p2 fun (y1_5 : Nat) (q3 : (List Int) × Nat × Nat × (List Int) × (List Int)) => (p2 fun (y1_6 : List Int) (q4 : Nat × Nat × (List Int) × (List Int)) => (p2 fun (y1_7 : Nat) (q5 : Nat × (List Int) × (List Int)) => (p2 fun (y1_8 : Nat) (q6 : (List Int) × (List Int)) => (p2 fun (y1_9 : List Int) (y1_10 : List Int) =>
(d_law00_Place a4 (x7.length : Int)).bind fun (x54 : Int) =>
asrt (0 ≤ 0 ∧ 0 ≤ x54 ∧ x54 ≤ (x7.length : Int)) <|
bnd ((x7.take x54.toNat).drop 0) fun (x56 : List UInt8) =>
(d_master_Read n x56).bind fun (x57 : GMaster × Int) =>
asrt (y1_4 + y1_5 ≤ x5.Methods.length) <|
asrt (y1_7 + y1_8 ≤ y1_10.length) <|
(d_master_Start n (⟨y1_1, y1_2, y1_6, ((((x5.Methods.set (Int.toNat x16) y1_9)).drop y1_4).take y1_5), (x5.Costs.set (Int.toNat x16) (((y1_10).drop y1_7).take y1_8))⟩ : GMaster)).bind fun (x61 : GState × Int) =>
asrt (y1_4 + y1_5 ≤ x5.Methods.length) <|
asrt (y1_7 + y1_8 ≤ y1_10.length) <|
(d_ref04_Start n (⟨y1_1, y1_2, y1_6, ((((x5.Methods.set (Int.toNat x16) y1_9)).drop y1_4).take y1_5), (x5.Costs.set (Int.toNat x16) (((y1_10).drop y1_7).take y1_8))⟩ : GMaster)).bind fun (x65 : GState × Int) =>
(show Option (Bool) from
asrt (y1_4 + y1_5 ≤ x5.Methods.length) <|
asrt (y1_7 + y1_8 ≤ y1_10.length) <|
(d_master_Check n (⟨y1_1, y1_2, y1_6, ((((x5.Methods.set (Int.toNat x16) y1_9)).drop y1_4).take y1_5), (x5.Costs.set (Int.toNat x16) (((y1_10).drop y1_7).take y1_8))⟩ : GMaster)).bind fun (x70 : Bool) =>
asrt (y1_4 + y1_5 ≤ x5.Methods.length) <|
asrt (y1_7 + y1_8 ≤ y1_10.length) <|
(d_ref04_Check n (⟨y1_1, y1_2, y1_6, ((((x5.Methods.set (Int.toNat x16) y1_9)).drop y1_4).take y1_5), (x5.Costs.set (Int.toNat x16) (((y1_10).drop y1_7).take y1_8))⟩ : GMaster)).bind fun (x73 : Bool) =>
bnd (decide (x70 = x73)) fun (x74 : Bool) =>
cond x74 (asrt (y1_4 + y1_5 ≤ x5.Methods.length) <|
asrt (y1_7 + y1_8 ≤ y1_10.length) <|
(d_master_Bytes n (⟨y1_1, y1_2, y1_6, ((((x5.Methods.set (Int.toNat x16) y1_9)).drop y1_4).take y1_5), (x5.Costs.set (Int.toNat x16) (((y1_10).drop y1_7).take y1_8))⟩ : GMaster)).bind fun (x77 : (List UInt8)) =>
asrt (y1_4 + y1_5 ≤ x5.Methods.length) <|
asrt (y1_7 + y1_8 ≤ y1_10.length) <|
(d_ref04_Bytes n (⟨y1_1, y1_2, y1_6, ((((x5.Methods.set (Int.toNat x16) y1_9)).drop y1_4).take y1_5), (x5.Costs.set (Int.toNat x16) (((y1_10).drop y1_7).take y1_8))⟩ : GMaster)).bind fun (x80 : (List UInt8)) =>
bnd (decide (x77 = x80)) fun (x81 : Bool) =>
cond x81 (bnd (decide (x57.2 = 3)) fun (x82 : Bool) =>
cond x82 (bnd (decide (x61.2 = x65.2)) fun (x83 : Bool) =>
cond x83 ((d_ref14_Same n x61.1 x65.1).bind fun (x84 : Bool) =>
cond x84 ((d_law04_awake n).bind fun (x85 : Bool) =>
some (x85 : Bool)) (some (false : Bool))) (some (false : Bool))) (some (false : Bool))) (some (false : Bool))) (some (false : Bool))).bind <| fun (y2_1 : Bool) =>
some ((y2_1 : Bool))) q6) q5) q4) q3) q2) q1) q0)
theorem d_law04_MasterBack_c {n : Nat} {a1 : Int} {a2 : Int} {a3 : Int} {a4 : Int} {r : Bool} (h0 : d_law04_MasterBack n a1 a2 a3 a4 = some r) : PP Try.prog 7 [int a1, int a2, int a3, int a4] (fun y => y = boo r) := by
  unfold d_law04_MasterBack at h0
  refine pp_of_pc (R0 := fun y H => Cv (frzH H) y (boo r)) ?_ (fun y H hc => ⟨_, rfl, pvB r, hc⟩)
  refine pc_of' (c := _) Try.func7 rfl rfl ?_; intro Q hret hnorm
  refine c_seq ?_
  refine c_reg ?_; intro K hK
  refine st rfl rfl rfl (yv_assign rfl rfl) ?_
  refine rg_nil (hK _ ?_)
  refine c_seq ?_
  refine c_reg ?_; intro K hK
  refine st rfl rfl rfl (yv_move rfl rfl) ?_
  obtain ⟨x5, e5, h0⟩ := bind_e h0
  refine st rfl rfl rfl (yv_callP rfl rfl (.cons rfl .nil) cal37 (CvL.refl _) (d_law00_Master_c e5)) ?_
  refine se rfl rfl rfl (yl_alloc 1 .any rfl z43 rfl) ?_; rintro _ _ ⟨v6, -, rfl, rfl⟩
  refine sstore rfl rfl (yl_ob (ob' := (⟨43, 5, true, true, v6, [[int x5.Entities, int x5.Periods, lst 1 fI x5.Weights, lst 1 (fL 1 fI) x5.Methods, lst 1 (fL 1 fI) x5.Costs]]⟩ : AObj)) (yl_store rfl sh43 rfl rfl rfl rfl rfl rfl rfl rfl rfl) rfl) ?_
  refine rg_nil (hK _ ?_)
  refine c_seq ?_
  refine c_reg ?_; intro K hK
  refine st rfl rfl rfl (yv_load rfl sh43 rfl (.pt rfl rfl rfl) rfl) ?_
  obtain ⟨x7, e7, h0⟩ := bind_e h0
  refine st rfl rfl rfl (yv_callP rfl rfl (.cons rfl .nil) cal34 (CvL.refl _) (d_master_Bytes_c e7)) ?_
  refine st rfl rfl rfl (yv_assign rfl rfl) ?_
  refine rg_nil (hK _ ?_)
  refine c_seq ?_
  refine c_reg ?_; intro K hK
  refine st rfl rfl rfl (yv_move rfl rfl) ?_
  obtain ⟨x8, e8, h0⟩ := bind_e h0
  refine st rfl rfl rfl (yv_callP rfl rfl (.cons rfl .nil) cal26 (CvL.refl _) (d_master_Read_c e8)) ?_
  refine st rfl rfl rfl (yv_move rfl rfl) ?_
  refine st rfl rfl rfl (yv_extract rfl rfl rfl) ?_
  refine st rfl rfl rfl (yv_extract rfl rfl rfl) ?_
  refine se rfl rfl rfl (yl_alloc 2 .any rfl z43 rfl) ?_; rintro _ _ ⟨v9, -, rfl, rfl⟩
  refine sstore rfl rfl (yl_ob (ob' := (⟨43, 5, true, true, v9, [[int x8.1.Entities, int x8.1.Periods, lst 1 fI x8.1.Weights, lst 1 (fL 1 fI) x8.1.Methods, lst 1 (fL 1 fI) x8.1.Costs]]⟩ : AObj)) (yl_store rfl sh43 rfl rfl rfl rfl rfl rfl rfl rfl rfl) rfl) ?_
  refine st rfl rfl rfl (yv_assign rfl rfl) ?_
  refine rg_nil (hK _ ?_)
  refine c_seq ?_
  refine c_seq ?_
  obtain ⟨j10, h1, h0⟩ := bind_e h0
  refine c_regL (fun (a : Bool) (k : Unit) => ⟨kn [(1, int a2), (2, int a3), (3, int a4), (8, boo false), (9, .pt 1 v6 0 0), (10, str x7), (43, boo a)], hk [(1, ⟨43, 5, true, true, v6, [[int x5.Entities, int x5.Periods, lst 1 fI x5.Weights, lst 1 (fL 1 fI) x5.Methods, lst 1 (fL 1 fI) x5.Costs]]⟩)]⟩) (fun a => a = j10) ?_ ?_
  · intro K hK
    refine st rfl rfl rfl (yv_move rfl rfl) ?_
    obtain ⟨x11, e11, h1⟩ := bnd_e h1
    refine st rfl rfl rfl (yv_to (y := boo x11) (yv_neq rfl rfl rfl) (congrArg boo e11)) ?_
    refine st rfl rfl rfl (yv_move rfl rfl) ?_
    refine scases 33 rfl ?_ ?_
    · intro hb; subst hb; replace h1 := ct h1
      refine sk rfl rfl rfl ?_
      refine sk rfl rfl rfl ?_
      refine sk rfl rfl rfl ?_
      refine sk rfl rfl rfl ?_
      refine st rfl rfl rfl (yv_pick rfl rfl (fun _ => rfl) (fun _ => rfl) rfl) ?_
      refine st rfl rfl rfl (yv_move rfl rfl) ?_
      refine sk rfl rfl rfl ?_
      refine sk rfl rfl rfl ?_
      refine sk rfl rfl rfl ?_
      refine st rfl rfl rfl (yv_pick rfl rfl (fun _ => rfl) (fun _ => rfl) rfl) ?_
      obtain rfl := nxt_e h1
      refine rg_nil (hK _ ⟨true, (), rfl, leH_kn ⟨⟨_, rfl, (.refl _)⟩, ⟨_, rfl, (.refl _)⟩, ⟨_, rfl, (.refl _)⟩, ⟨_, rfl, (.refl _)⟩, ⟨_, rfl, (.refl _)⟩, ⟨_, rfl, (.refl _)⟩, ⟨_, rfl, (.refl _)⟩, trivial⟩ ⟨⟨_, rfl, (.refl _)⟩, trivial⟩⟩)
    · intro hb; subst hb; replace h1 := cf h1
      refine st rfl rfl rfl (yv_load rfl sh43 rfl (.pt rfl rfl rfl) rfl) ?_
      refine st rfl rfl rfl (yv_load rfl sh43 rfl (.pt rfl rfl rfl) rfl) ?_
      obtain ⟨x12, e12, h1⟩ := bind_e h1
      refine st rfl rfl rfl (yv_callP rfl rfl (.cons rfl (.cons rfl .nil)) cal33 (CvL.refl _) (d_ref04_Same_c e12)) ?_
      obtain ⟨x13, e13, h1⟩ := bnd_e h1
      refine st rfl rfl rfl (yv_not rfl rfl e13) ?_
      refine st rfl rfl rfl (yv_pick rfl rfl (fun _ => rfl) (fun _ => rfl) rfl) ?_
      refine st rfl rfl rfl (yv_move rfl rfl) ?_
      refine scases 39 rfl ?_ ?_
      · intro hb; subst hb; replace h1 := ct h1
        refine sk rfl rfl rfl ?_
        refine sk rfl rfl rfl ?_
        refine sk rfl rfl rfl ?_
        refine st rfl rfl rfl (yv_pick rfl rfl (fun _ => rfl) (fun _ => rfl) rfl) ?_
        obtain rfl := nxt_e h1
        refine rg_nil (hK _ ⟨true, (), rfl, leH_kn ⟨⟨_, rfl, (.refl _)⟩, ⟨_, rfl, (.refl _)⟩, ⟨_, rfl, (.refl _)⟩, ⟨_, rfl, (.refl _)⟩, ⟨_, rfl, (.refl _)⟩, ⟨_, rfl, (.refl _)⟩, ⟨_, rfl, (.refl _)⟩, trivial⟩ ⟨⟨_, rfl, (.refl _)⟩, trivial⟩⟩)
      · intro hb; subst hb; replace h1 := cf h1
        refine st rfl rfl rfl (yv_move rfl rfl) ?_
        refine st rfl rfl rfl (yv_len_str rfl Try.underlying9 rfl) ?_
        obtain ⟨x14, e14, h1⟩ := bnd_e h1
        refine st rfl rfl rfl (yv_to (y := boo x14) (yv_lss rfl rfl rfl) (congrArg boo e14)) ?_
        refine st rfl rfl rfl (yv_pick rfl rfl (fun _ => rfl) (fun _ => rfl) rfl) ?_
        obtain rfl := nxt_e h1
        refine rg_nil (hK _ ⟨x14, (), rfl, leH_kn ⟨⟨_, rfl, (.refl _)⟩, ⟨_, rfl, (.refl _)⟩, ⟨_, rfl, (.refl _)⟩, ⟨_, rfl, (.refl _)⟩, ⟨_, rfl, (.refl _)⟩, ⟨_, rfl, (.refl _)⟩, ⟨_, rfl, (.refl _)⟩, trivial⟩ ⟨⟨_, rfl, (.refl _)⟩, trivial⟩⟩)
  · rintro y0_1 _ rfl
    refine c_show ⟨kn [(1, int a2), (2, int a3), (3, int a4), (8, boo false), (9, .pt 1 v6 0 0), (10, str x7), (43, boo y0_1)], hk [(1, ⟨43, 5, true, true, v6, [[int x5.Entities, int x5.Periods, lst 1 fI x5.Weights, lst 1 (fL 1 fI) x5.Methods, lst 1 (fL 1 fI) x5.Costs]]⟩)]⟩ ?_
    refine c_if (b := y0_1) rfl ?_ ?_
    · intro hb; subst hb; replace h0 := ct h0
      refine c_seq ?_
      refine c_reg ?_; intro K hK
      refine st rfl rfl rfl (yv_assign rfl rfl) ?_
      refine rg_nil (hK _ ?_)
      obtain rfl := nxt_e h0
      refine c_ret (hret _ _ _ (.tmp rfl .nil) (fun _ _ h => h) ?_)
      exact .refl _
    · intro hb; subst hb; replace h0 := cf h0
      refine c_skip ?_
      refine c_seq ?_
      refine c_drawE [0, 1, 0, 4, 15, 0, 32, 0, 128, 384, 1023, 2047, 4095] (fun i => bif Nat.beq i 2 then ([1]) else bif Nat.beq i 3 then ([1]) else bif Nat.beq i 7 then ([1]) else bif Nat.beq i 8 then ([1]) else []) (fun i => [1]) (fun i => true) [0, 1, 2, 3, 4, 5, 6, 7, 8, 9, 10, 11, 12] mixed (by kernel_rfl) ?_; intro K hK
      refine de_pure rfl rfl rfl rfl (fun H hH => yv_move rfl rfl) ?_
      obtain ⟨x15, e15, h0⟩ := bnd_e h0
      refine de_pure rfl rfl rfl rfl (fun H hH => yv_quo rfl rfl rfl (by decide) e15) ?_
      refine de_pure rfl rfl rfl rfl (fun H hH => yv_fieldAddr rfl fo43_0 rfl (.pt ((hH _ (by decide)).trans rfl) rfl rfl) (.pt _ _ _ _ _)) ?_
      refine de_pure rfl rfl rfl rfl (fun H hH => yv_load rfl sh3 rfl (.pt ((hH _ (by decide)).trans rfl) rfl rfl) rfl) ?_
      obtain ⟨x16, e16, h0⟩ := bind_e h0
      refine de_pure rfl rfl rfl rfl (fun H hH => yv_callP rfl rfl (.cons rfl (.cons rfl .nil)) cal11 (CvL.refl _) (d_law00_Place_c e16)) ?_
      refine de_pure rfl rfl rfl rfl (fun H hH => yv_move rfl rfl) ?_
      obtain ⟨x17, e17, h0⟩ := bnd_e h0
      refine de_pure rfl rfl rfl rfl (fun H hH => yv_quo rfl rfl rfl (by decide) e17) ?_
      refine de_pure rfl rfl rfl rfl (fun H hH => yv_fieldAddr rfl fo43_2 rfl (.pt ((hH _ (by decide)).trans rfl) rfl rfl) (.pt _ _ _ _ _)) ?_
      refine de_pure rfl rfl rfl rfl (fun H hH => yv_load rfl sh22 rfl (.pt ((hH _ (by decide)).trans rfl) rfl rfl) rfl) ?_
      refine de_pure rfl rfl rfl rfl (fun H hH => yv_len_sl rfl Try.underlying22 rfl (lst_len _)) ?_
      obtain ⟨x18, e18, h0⟩ := bind_e h0
      refine de_pure rfl rfl rfl rfl (fun H hH => yv_callP rfl rfl (.cons rfl (.cons rfl .nil)) cal11 (CvL.refl _) (d_law00_Place_c e18)) ?_
      refine de_pure rfl rfl rfl rfl (fun H hH => yv_assign rfl rfl) ?_
      refine de_pure rfl rfl rfl rfl (fun H hH => yv_assign rfl rfl) ?_
      refine de_nil (hK _ ?_)
      refine c_seq ?_
      refine c_reg ?_; intro K hK
      refine st rfl rfl rfl (yv_move rfl rfl) ?_
      refine st rfl rfl rfl (yv_buildA (cs := [int (-1), int 0, int 1073741824, int 1073741825, int 5, int a3]) (ps := [(0, _), (1, _), (2, _), (3, _), (4, _), (5, _)]) rfl Try.underlying61 sh3 z61 rfl (.cons rfl (.cons rfl (.cons rfl (.cons rfl (.cons rfl (.cons rfl .nil)))))) (by kernel_rfl)) ?_
      refine st rfl rfl rfl (yv_move rfl rfl) ?_
      obtain ⟨x19, e19, h0⟩ := bnd_e h0
      refine st rfl rfl rfl (yv_quo rfl rfl rfl (by decide) e19) ?_
      obtain ⟨x20, e20, h0⟩ := bind_e h0
      refine st rfl rfl rfl (yv_callP rfl rfl (.cons rfl (.cons rfl .nil)) cal11 (CvL.refl _) (d_law00_Place_c e20)) ?_
      obtain ⟨x21, e21, h0⟩ := bind_e h0
      refine st rfl rfl rfl (yv_indexAT (g := fI) (l := ([(-1), 0, 1073741824, 1073741825, 5, a3] : List Int)) (v := x21) (w := int x21) rfl Try.underlying61 sh3 rfl rfl rfl e21 (fun _ => rfl) hw1) ?_
      refine st rfl rfl rfl (yv_assign rfl rfl) ?_
      refine rg_nil (hK _ ?_)
      refine c_seq ?_
      refine c_reg ?_; intro K hK
      refine st rfl rfl rfl (yv_fieldAddr rfl fo43_2 rfl (.pt rfl rfl rfl) (.pt _ _ _ _ _)) ?_
      refine st rfl rfl rfl (yv_load rfl sh22 rfl (.pt rfl rfl rfl) rfl) ?_
      obtain ⟨p22, h0⟩ := asrt_e h0
      refine se rfl rfl rfl (yl_app0T (g := fI) (m := x5.Weights) 3 rfl Try.underlying22 bz3 by3 rfl rfl rfl rfl (.refl _) (fun _ => rfl) p22) ?_; rintro _ _ ⟨v23, rfl, rfl⟩
      refine st rfl rfl rfl (yv_fieldAddr rfl fo43_2 rfl (.pt rfl rfl rfl) (.pt _ _ _ _ _)) ?_
      refine sstore rfl rfl (yl_ob (ob' := (⟨43, 5, true, true, v6, [[int x5.Entities, int x5.Periods, .sl 3 v23 0 x5.Weights.length, lst 1 (fL 1 fI) x5.Methods, lst 1 (fL 1 fI) x5.Costs]]⟩ : AObj)) (yl_store rfl sh22 rfl rfl rfl rfl rfl rfl rfl rfl rfl) rfl) ?_
      refine rg_nil (hK _ ?_)
      refine c_seq ?_
      refine c_reg ?_; intro K hK
      refine st rfl rfl rfl (yv_fieldAddr rfl fo43_3 rfl (.pt rfl rfl rfl) (.pt _ _ _ _ _)) ?_
      refine st rfl rfl rfl (yv_load rfl sh41 rfl (.pt rfl rfl rfl) rfl) ?_
      obtain ⟨p24, h0⟩ := asrt_e h0
      refine se rfl rfl rfl (yl_app0T (g := (fL 1 fI)) (m := x5.Methods) 4 rfl Try.underlying41 bz22 by22 rfl rfl rfl rfl (.refl _) (fun _ => rfl) p24) ?_; rintro _ _ ⟨v25, rfl, rfl⟩
      refine st rfl rfl rfl (yv_fieldAddr rfl fo43_3 rfl (.pt rfl rfl rfl) (.pt _ _ _ _ _)) ?_
      refine sstore rfl rfl (yl_ob (ob' := (⟨43, 5, true, true, v6, [[int x5.Entities, int x5.Periods, .sl 3 v23 0 x5.Weights.length, .sl 4 v25 0 x5.Methods.length, lst 1 (fL 1 fI) x5.Costs]]⟩ : AObj)) (yl_store rfl sh41 rfl rfl rfl rfl rfl rfl rfl rfl rfl) rfl) ?_
      refine rg_nil (hK _ ?_)
      refine c_seq ?_
      refine c_drawE [0, 1, 0, 0, 8, 0, 56, 120, 248, 511, 1023] (fun i => bif Nat.beq i 0 then ([1]) else bif Nat.beq i 1 then ([1]) else bif Nat.beq i 3 then ([1]) else bif Nat.beq i 4 then ([1]) else bif Nat.beq i 6 then ([4]) else bif Nat.beq i 7 then ([4]) else bif Nat.beq i 9 then ([4]) else []) (fun i => bif Nat.beq i 8 then ([1]) else bif Nat.beq i 10 then ([]) else [1, 4]) (fun i => bif Nat.beq i 8 then (false) else bif Nat.beq i 10 then (false) else true) [0, 1, 2, 3, 4, 5, 6, 7, 8, 9, 10] mixed (by kernel_rfl) ?_; intro K hK
      refine de_pure rfl rfl rfl rfl (fun H hH => yv_fieldAddr rfl fo43_3 rfl (.pt ((hH _ (by decide)).trans rfl) rfl rfl) (.pt _ _ _ _ _)) ?_
      refine de_pure rfl rfl rfl rfl (fun H hH => yv_load rfl sh41 rfl (.pt ((hH _ (by decide)).trans rfl) rfl rfl) rfl) ?_
      refine de_pure rfl rfl rfl rfl (fun H hH => yv_move rfl rfl) ?_
      refine de_pure rfl rfl rfl rfl (fun H hH => yv_fieldAddr rfl fo43_3 rfl (.pt ((hH _ (by decide)).trans rfl) rfl rfl) (.pt _ _ _ _ _)) ?_
      refine de_pure rfl rfl rfl rfl (fun H hH => yv_load rfl sh41 rfl (.pt ((hH _ (by decide)).trans rfl) rfl rfl) rfl) ?_
      refine de_pure rfl rfl rfl rfl (fun H hH => yv_move rfl rfl) ?_
      obtain ⟨x26, e26, h0⟩ := bind_e h0
      refine de_pure rfl rfl rfl rfl (fun H hH => yv_ixO rfl Try.underlying41 sh22 rfl rfl ((hH _ (by decide)).trans rfl) rfl rfl (Eq.symm rfl) (List.length_map _) e26) ?_
      refine de_pure rfl rfl rfl rfl (fun H hH => yv_load rfl sh22 rfl (.pt ((hH _ (by decide)).trans rfl) rfl (ix_get e26)) rfl) ?_
      obtain ⟨p27, h0⟩ := asrt_e h0
      refine de_eff rfl rfl rfl rfl (yl_app0T (g := fI) (m := x26) 5 rfl Try.underlying22 bz3 by3 rfl rfl rfl rfl (.refl _) (fun _ => rfl) p27) (by rintro _ _ ⟨v28, rfl, rfl⟩; exact ⟨rfl, trivial⟩) ?_; rintro _ _ ⟨v28, rfl, rfl⟩
      refine de_pure rfl rfl rfl rfl (fun H hH => yv_ixO rfl Try.underlying41 sh22 rfl rfl ((hH _ (by decide)).trans rfl) rfl rfl (Eq.symm rfl) (List.length_map _) e26) ?_
      refine de_eff0 rfl rfl rfl rfl (Yield.weak (yl_ob (ob' := (⟨22, 1, true, true, v25, (x5.Methods.map (fL 1 fI)).set (Int.toNat x16) [.sl 5 v28 0 x26.length]⟩ : AObj)) (yl_store rfl sh22 rfl rfl rfl rfl rfl (ix_get e26) rfl rfl rfl) (ob_eq rfl)) (fun _ h => h) (fun _ _ => trivial)) (by rintro _ _ ⟨rfl, rfl⟩; exact trivial) ?_; rintro _ _ ⟨rfl, rfl⟩
      refine de_nil (hK _ ?_)
      refine c_seq ?_
      refine c_reg ?_; intro K hK
      refine st rfl rfl rfl (yv_fieldAddr rfl fo43_4 rfl (.pt rfl rfl rfl) (.pt _ _ _ _ _)) ?_
      refine st rfl rfl rfl (yv_load rfl sh41 rfl (.pt rfl rfl rfl) rfl) ?_
      obtain ⟨p29, h0⟩ := asrt_e h0
      refine se rfl rfl rfl (yl_app0T (g := (fL 1 fI)) (m := x5.Costs) 6 rfl Try.underlying41 bz22 by22 rfl rfl rfl rfl (.refl _) (fun _ => rfl) p29) ?_; rintro _ _ ⟨v30, rfl, rfl⟩
      refine st rfl rfl rfl (yv_fieldAddr rfl fo43_4 rfl (.pt rfl rfl rfl) (.pt _ _ _ _ _)) ?_
      refine sstore rfl rfl (yl_ob (ob' := (⟨43, 5, true, true, v6, [[int x5.Entities, int x5.Periods, .sl 3 v23 0 x5.Weights.length, .sl 4 v25 0 x5.Methods.length, .sl 6 v30 0 x5.Costs.length]]⟩ : AObj)) (yl_store rfl sh41 rfl rfl rfl rfl rfl rfl rfl rfl rfl) rfl) ?_
      refine rg_nil (hK _ ?_)
      refine c_seq ?_
      refine c_drawE [0, 1, 0, 0, 8, 0, 56, 120, 248, 511, 1023] (fun i => bif Nat.beq i 0 then ([1]) else bif Nat.beq i 1 then ([1]) else bif Nat.beq i 3 then ([1]) else bif Nat.beq i 4 then ([1]) else bif Nat.beq i 6 then ([6]) else bif Nat.beq i 7 then ([6]) else bif Nat.beq i 9 then ([6]) else []) (fun i => bif Nat.beq i 8 then ([1]) else bif Nat.beq i 10 then ([]) else [1, 6]) (fun i => bif Nat.beq i 8 then (false) else bif Nat.beq i 10 then (false) else true) [0, 1, 2, 3, 4, 5, 6, 7, 8, 9, 10] mixed (by kernel_rfl) ?_; intro K hK
      refine de_pure rfl rfl rfl rfl (fun H hH => yv_fieldAddr rfl fo43_4 rfl (.pt ((hH _ (by decide)).trans rfl) rfl rfl) (.pt _ _ _ _ _)) ?_
      refine de_pure rfl rfl rfl rfl (fun H hH => yv_load rfl sh41 rfl (.pt ((hH _ (by decide)).trans rfl) rfl rfl) rfl) ?_
      refine de_pure rfl rfl rfl rfl (fun H hH => yv_move rfl rfl) ?_
      refine de_pure rfl rfl rfl rfl (fun H hH => yv_fieldAddr rfl fo43_4 rfl (.pt ((hH _ (by decide)).trans rfl) rfl rfl) (.pt _ _ _ _ _)) ?_
      refine de_pure rfl rfl rfl rfl (fun H hH => yv_load rfl sh41 rfl (.pt ((hH _ (by decide)).trans rfl) rfl rfl) rfl) ?_
      refine de_pure rfl rfl rfl rfl (fun H hH => yv_move rfl rfl) ?_
      obtain ⟨x31, e31, h0⟩ := bind_e h0
      refine de_pure rfl rfl rfl rfl (fun H hH => yv_ixO rfl Try.underlying41 sh22 rfl rfl ((hH _ (by decide)).trans rfl) rfl rfl (Eq.symm rfl) (List.length_map _) e31) ?_
      refine de_pure rfl rfl rfl rfl (fun H hH => yv_load rfl sh22 rfl (.pt ((hH _ (by decide)).trans rfl) rfl (ix_get e31)) rfl) ?_
      obtain ⟨p32, h0⟩ := asrt_e h0
      refine de_eff rfl rfl rfl rfl (yl_app0T (g := fI) (m := x31) 7 rfl Try.underlying22 bz3 by3 rfl rfl rfl rfl (.refl _) (fun _ => rfl) p32) (by rintro _ _ ⟨v33, rfl, rfl⟩; exact ⟨rfl, trivial⟩) ?_; rintro _ _ ⟨v33, rfl, rfl⟩
      refine de_pure rfl rfl rfl rfl (fun H hH => yv_ixO rfl Try.underlying41 sh22 rfl rfl ((hH _ (by decide)).trans rfl) rfl rfl (Eq.symm rfl) (List.length_map _) e31) ?_
      refine de_eff0 rfl rfl rfl rfl (Yield.weak (yl_ob (ob' := (⟨22, 1, true, true, v30, (x5.Costs.map (fL 1 fI)).set (Int.toNat x16) [.sl 7 v33 0 x31.length]⟩ : AObj)) (yl_store rfl sh22 rfl rfl rfl rfl rfl (ix_get e31) rfl rfl rfl) (ob_eq rfl)) (fun _ h => h) (fun _ _ => trivial)) (by rintro _ _ ⟨rfl, rfl⟩; exact trivial) ?_; rintro _ _ ⟨rfl, rfl⟩
      refine de_nil (hK _ ?_)
      refine c_seq ?_
      refine c_seq ?_
      refine c_reg ?_; intro K hK
      refine st rfl rfl rfl (yv_move rfl rfl) ?_
      obtain ⟨x34, e34, h0⟩ := bind_e h0
      refine st rfl rfl rfl (yv_callP rfl rfl (.cons rfl (.cons rfl .nil)) cal11 (CvL.refl _) (d_law00_Place_c e34)) ?_
      refine rg_nil (hK _ ?_)
      obtain ⟨j35, h1, h0⟩ := bind_e h0
      refine c_joinL (fun (a : Int × Int × Nat × Nat × (List Int) × Nat × Nat × (List Int) × (List Int)) (k : Nat) => ⟨kn [(3, int a4), (8, boo false), (9, .pt 1 v6 0 0), (10, str x7)], hk [(1, ⟨43, 5, true, true, v6, [[int a.1, int a.2.1, .sl 3 k 0 a.2.2.2.2.1.length, .sl 4 v25 a.2.2.1 a.2.2.2.1, .sl 6 v30 0 x5.Costs.length]]⟩), (3, ⟨3, 1, true, true, k, a.2.2.2.2.1.map fI⟩), (4, ⟨22, 1, true, true, v25, (x5.Methods.map (fL 1 fI)).set (Int.toNat x16) [.sl 5 v28 0 a.2.2.2.2.2.2.2.1.length]⟩), (5, ⟨3, 1, true, true, v28, a.2.2.2.2.2.2.2.1.map fI⟩), (6, ⟨22, 1, true, true, v30, (x5.Costs.map (fL 1 fI)).set (Int.toNat x16) [.sl 7 v33 a.2.2.2.2.2.1 a.2.2.2.2.2.2.1]⟩), (7, ⟨3, 1, true, true, v33, a.2.2.2.2.2.2.2.2.map fI⟩)]⟩) (fun a => a = j35) ?_ ?_
      · intro Q1 jn1 jx1 jr1
        refine c_block ?_; intro Q2 bn2 bx2 br2 bo2
        refine c_seq ?_
        refine c_reg ?_; intro K hK
        obtain ⟨x36, e36, h1⟩ := bnd_e h1
        refine st rfl rfl rfl (yv_to (y := boo x36) (yv_eql rfl rfl rfl) (congrArg boo e36)) ?_
        refine st rfl rfl rfl (yv_assign rfl rfl) ?_
        refine rg_nil (hK _ ?_)
        refine c_if (b := x36) rfl ?_ ?_
        · intro hb; subst hb; replace h1 := ct h1
          refine c_reg ?_; intro K hK
          refine st rfl rfl rfl (yv_move rfl rfl) ?_
          refine st rfl rfl rfl (yv_fieldAddr rfl fo43_0 rfl (.pt rfl rfl rfl) (.pt _ _ _ _ _)) ?_
          refine sstore rfl rfl (yl_ob (ob' := (⟨43, 5, true, true, v6, [[int x21, int x5.Periods, .sl 3 v23 0 x5.Weights.length, .sl 4 v25 0 x5.Methods.length, .sl 6 v30 0 x5.Costs.length]]⟩ : AObj)) (yl_store rfl sh3 rfl rfl rfl rfl rfl rfl rfl rfl rfl) rfl) ?_
          refine rg_nil (hK _ ?_)
          refine c_nil (bn2 _ ?_)
          obtain rfl := nxt_e h1
          refine c_nil (jn1 _ ⟨(x21, x5.Periods, 0, x5.Methods.length, x5.Weights, 0, x31.length, x26, x31), v23, rfl, leH_kn ⟨⟨_, rfl, (.refl _)⟩, ⟨_, rfl, (.refl _)⟩, ⟨_, rfl, (.refl _)⟩, ⟨_, rfl, (.refl _)⟩, trivial⟩ ⟨⟨_, rfl, (.refl _)⟩, ⟨_, rfl, (.refl _)⟩, ⟨_, rfl, (.refl _)⟩, ⟨_, rfl, (.refl _)⟩, ⟨_, rfl, (.refl _)⟩, ⟨_, rfl, (.refl _)⟩, trivial⟩⟩)
        · intro hb; subst hb; replace h1 := cf h1
          refine c_seq ?_
          refine c_reg ?_; intro K hK
          obtain ⟨x37, e37, h1⟩ := bnd_e h1
          refine st rfl rfl rfl (yv_to (y := boo x37) (yv_eql rfl rfl rfl) (congrArg boo e37)) ?_
          refine st rfl rfl rfl (yv_assign rfl rfl) ?_
          refine rg_nil (hK _ ?_)
          refine c_if (b := x37) rfl ?_ ?_
          · intro hb; subst hb; replace h1 := ct h1
            refine c_reg ?_; intro K hK
            refine st rfl rfl rfl (yv_move rfl rfl) ?_
            refine st rfl rfl rfl (yv_fieldAddr rfl fo43_1 rfl (.pt rfl rfl rfl) (.pt _ _ _ _ _)) ?_
            refine sstore rfl rfl (yl_ob (ob' := (⟨43, 5, true, true, v6, [[int x5.Entities, int x21, .sl 3 v23 0 x5.Weights.length, .sl 4 v25 0 x5.Methods.length, .sl 6 v30 0 x5.Costs.length]]⟩ : AObj)) (yl_store rfl sh3 rfl rfl rfl rfl rfl rfl rfl rfl rfl) rfl) ?_
            refine rg_nil (hK _ ?_)
            refine c_nil (bn2 _ ?_)
            obtain rfl := nxt_e h1
            refine c_nil (jn1 _ ⟨(x5.Entities, x21, 0, x5.Methods.length, x5.Weights, 0, x31.length, x26, x31), v23, rfl, leH_kn ⟨⟨_, rfl, (.refl _)⟩, ⟨_, rfl, (.refl _)⟩, ⟨_, rfl, (.refl _)⟩, ⟨_, rfl, (.refl _)⟩, trivial⟩ ⟨⟨_, rfl, (.refl _)⟩, ⟨_, rfl, (.refl _)⟩, ⟨_, rfl, (.refl _)⟩, ⟨_, rfl, (.refl _)⟩, ⟨_, rfl, (.refl _)⟩, ⟨_, rfl, (.refl _)⟩, trivial⟩⟩)
          · intro hb; subst hb; replace h1 := cf h1
            refine c_seq ?_
            refine c_reg ?_; intro K hK
            obtain ⟨x38, e38, h1⟩ := bnd_e h1
            refine st rfl rfl rfl (yv_to (y := boo x38) (yv_eql rfl rfl rfl) (congrArg boo e38)) ?_
            refine st rfl rfl rfl (yv_assign rfl rfl) ?_
            refine rg_nil (hK _ ?_)
            refine c_if (b := x38) rfl ?_ ?_
            · intro hb; subst hb; replace h1 := ct h1
              refine c_reg ?_; intro K hK
              refine st rfl rfl rfl (yv_fieldAddr rfl fo43_2 rfl (.pt rfl rfl rfl) (.pt _ _ _ _ _)) ?_
              refine st rfl rfl rfl (yv_load rfl sh22 rfl (.pt rfl rfl rfl) rfl) ?_
              refine st rfl rfl rfl (yv_move rfl rfl) ?_
              refine st rfl rfl rfl (yv_move rfl rfl) ?_
              obtain ⟨x39, e39, h1⟩ := bind_e h1
              refine st rfl rfl rfl (yv_ixO rfl Try.underlying22 sh3 rfl rfl rfl rfl rfl (Eq.symm rfl) (List.length_map _) e39) ?_
              obtain ⟨x40, e40, h1⟩ := bnd_e h1
              have fx40 := ix_set e39 e40; have lx40 := len_setV e40 (rfl : x5.Weights.length = x5.Weights.length)
              refine sstore rfl rfl (yl_ob (ob' := (⟨3, 1, true, true, v23, x40.map fI⟩ : AObj)) (yl_store rfl sh3 rfl rfl rfl rfl rfl (ix_get e39) rfl rfl rfl) (ob_eq (map_setV e40))) ?_
              refine rg_nil (hK _ ?_)
              refine c_nil (bn2 _ ?_)
              obtain rfl := nxt_e h1
              refine c_nil (jn1 _ ⟨(x5.Entities, x5.Periods, 0, x5.Methods.length, x40, 0, x31.length, x26, x31), v23, rfl, leH_kn ⟨⟨_, rfl, (.refl _)⟩, ⟨_, rfl, (.refl _)⟩, ⟨_, rfl, (.refl _)⟩, ⟨_, rfl, (.refl _)⟩, trivial⟩ ⟨⟨_, rfl, ⟨rfl, (.cons (.cons (.refl _) (.cons (.refl _) (.cons (cv_slen (Eq.symm lx40)) (.cons (.refl _) (.cons (.refl _) .nil))))) .nil)⟩⟩, ⟨_, rfl, (.refl _)⟩, ⟨_, rfl, (.refl _)⟩, ⟨_, rfl, (.refl _)⟩, ⟨_, rfl, (.refl _)⟩, ⟨_, rfl, (.refl _)⟩, trivial⟩⟩)
            · intro hb; subst hb; replace h1 := cf h1
              refine c_seq ?_
              refine c_reg ?_; intro K hK
              obtain ⟨x41, e41, h1⟩ := bnd_e h1
              refine st rfl rfl rfl (yv_to (y := boo x41) (yv_eql rfl rfl rfl) (congrArg boo e41)) ?_
              refine st rfl rfl rfl (yv_assign rfl rfl) ?_
              refine rg_nil (hK _ ?_)
              refine c_if (b := x41) rfl ?_ ?_
              · intro hb; subst hb; replace h1 := ct h1
                refine c_reg ?_; intro K hK
                refine st rfl rfl rfl (yv_fieldAddr rfl fo43_3 rfl (.pt rfl rfl rfl) (.pt _ _ _ _ _)) ?_
                refine st rfl rfl rfl (yv_load rfl sh41 rfl (.pt rfl rfl rfl) rfl) ?_
                refine st rfl rfl rfl (yv_move rfl rfl) ?_
                refine st rfl rfl rfl (yv_ixO rfl Try.underlying41 sh22 rfl rfl rfl rfl rfl (Eq.symm rfl) len_ov e26) ?_
                refine st rfl rfl rfl (yv_load rfl sh22 rfl (.pt rfl rfl (set_get e26)) rfl) ?_
                refine st rfl rfl rfl (yv_move rfl rfl) ?_
                refine st rfl rfl rfl (yv_move rfl rfl) ?_
                obtain ⟨x42, e42, h1⟩ := bind_e h1
                refine st rfl rfl rfl (yv_ixO rfl Try.underlying22 sh3 rfl rfl rfl rfl rfl (Eq.symm rfl) (List.length_map _) e42) ?_
                obtain ⟨x43, e43, h1⟩ := bnd_e h1
                have fx43 := ix_set e42 e43; have lx43 := len_setV e43 (rfl : x26.length = x26.length)
                refine sstore rfl rfl (yl_ob (ob' := (⟨3, 1, true, true, v28, x43.map fI⟩ : AObj)) (yl_store rfl sh3 rfl rfl rfl rfl rfl (ix_get e42) rfl rfl rfl) (ob_eq (map_setV e43))) ?_
                refine rg_nil (hK _ ?_)
                refine c_nil (bn2 _ ?_)
                obtain rfl := nxt_e h1
                refine c_nil (jn1 _ ⟨(x5.Entities, x5.Periods, 0, x5.Methods.length, x5.Weights, 0, x31.length, x43, x31), v23, rfl, leH_kn ⟨⟨_, rfl, (.refl _)⟩, ⟨_, rfl, (.refl _)⟩, ⟨_, rfl, (.refl _)⟩, ⟨_, rfl, (.refl _)⟩, trivial⟩ ⟨⟨_, rfl, (.refl _)⟩, ⟨_, rfl, (.refl _)⟩, ⟨_, rfl, ⟨rfl, cvll_set (.cons (cv_slen (Eq.symm lx43)) .nil)⟩⟩, ⟨_, rfl, (.refl _)⟩, ⟨_, rfl, (.refl _)⟩, ⟨_, rfl, (.refl _)⟩, trivial⟩⟩)
              · intro hb; subst hb; replace h1 := cf h1
                refine c_seq ?_
                refine c_reg ?_; intro K hK
                obtain ⟨x44, e44, h1⟩ := bnd_e h1
                refine st rfl rfl rfl (yv_to (y := boo x44) (yv_eql rfl rfl rfl) (congrArg boo e44)) ?_
                refine st rfl rfl rfl (yv_assign rfl rfl) ?_
                refine rg_nil (hK _ ?_)
                refine c_if (b := x44) rfl ?_ ?_
                · intro hb; subst hb; replace h1 := ct h1
                  refine c_reg ?_; intro K hK
                  refine st rfl rfl rfl (yv_fieldAddr rfl fo43_4 rfl (.pt rfl rfl rfl) (.pt _ _ _ _ _)) ?_
                  refine st rfl rfl rfl (yv_load rfl sh41 rfl (.pt rfl rfl rfl) rfl) ?_
                  refine st rfl rfl rfl (yv_move rfl rfl) ?_
                  refine st rfl rfl rfl (yv_ixO rfl Try.underlying41 sh22 rfl rfl rfl rfl rfl (Eq.symm rfl) len_ov e31) ?_
                  refine st rfl rfl rfl (yv_load rfl sh22 rfl (.pt rfl rfl (set_get e31)) rfl) ?_
                  refine st rfl rfl rfl (yv_move rfl rfl) ?_
                  refine st rfl rfl rfl (yv_move rfl rfl) ?_
                  obtain ⟨x45, e45, h1⟩ := bind_e h1
                  refine st rfl rfl rfl (yv_ixO rfl Try.underlying22 sh3 rfl rfl rfl rfl rfl (Eq.symm rfl) (List.length_map _) e45) ?_
                  obtain ⟨x46, e46, h1⟩ := bnd_e h1
                  have fx46 := ix_set e45 e46; have lx46 := len_setV e46 (rfl : x31.length = x31.length)
                  refine sstore rfl rfl (yl_ob (ob' := (⟨3, 1, true, true, v33, x46.map fI⟩ : AObj)) (yl_store rfl sh3 rfl rfl rfl rfl rfl (ix_get e45) rfl rfl rfl) (ob_eq (map_setV e46))) ?_
                  refine rg_nil (hK _ ?_)
                  refine c_nil (bn2 _ ?_)
                  obtain rfl := nxt_e h1
                  refine c_nil (jn1 _ ⟨(x5.Entities, x5.Periods, 0, x5.Methods.length, x5.Weights, 0, x31.length, x26, x46), v23, rfl, leH_kn ⟨⟨_, rfl, (.refl _)⟩, ⟨_, rfl, (.refl _)⟩, ⟨_, rfl, (.refl _)⟩, ⟨_, rfl, (.refl _)⟩, trivial⟩ ⟨⟨_, rfl, (.refl _)⟩, ⟨_, rfl, (.refl _)⟩, ⟨_, rfl, (.refl _)⟩, ⟨_, rfl, (.refl _)⟩, ⟨_, rfl, (.refl _)⟩, ⟨_, rfl, (.refl _)⟩, trivial⟩⟩)
                · intro hb; subst hb; replace h1 := cf h1
                  refine c_seq ?_
                  refine c_reg ?_; intro K hK
                  obtain ⟨x47, e47, h1⟩ := bnd_e h1
                  refine st rfl rfl rfl (yv_to (y := boo x47) (yv_eql rfl rfl rfl) (congrArg boo e47)) ?_
                  refine st rfl rfl rfl (yv_assign rfl rfl) ?_
                  refine rg_nil (hK _ ?_)
                  refine c_if (b := x47) rfl ?_ ?_
                  · intro hb; subst hb; replace h1 := ct h1
                    refine c_drawE [0, 1, 0, 0, 8, 0, 56, 120, 248, 511, 1023] (fun i => bif Nat.beq i 0 then ([1]) else bif Nat.beq i 1 then ([1]) else bif Nat.beq i 3 then ([1]) else bif Nat.beq i 4 then ([1]) else bif Nat.beq i 6 then ([6]) else bif Nat.beq i 7 then ([6]) else bif Nat.beq i 8 then ([7]) else bif Nat.beq i 9 then ([6]) else []) (fun i => bif Nat.beq i 10 then ([]) else [1, 6, 7]) (fun i => bif Nat.beq i 10 then (false) else true) [0, 1, 2, 3, 4, 5, 6, 7, 8, 9, 10] mixed (by kernel_rfl) ?_; intro K hK
                    refine de_pure rfl rfl rfl rfl (fun H hH => yv_fieldAddr rfl fo43_4 rfl (.pt ((hH _ (by decide)).trans rfl) rfl rfl) (.pt _ _ _ _ _)) ?_
                    refine de_pure rfl rfl rfl rfl (fun H hH => yv_load rfl sh41 rfl (.pt ((hH _ (by decide)).trans rfl) rfl rfl) rfl) ?_
                    refine de_pure rfl rfl rfl rfl (fun H hH => yv_move rfl rfl) ?_
                    refine de_pure rfl rfl rfl rfl (fun H hH => yv_fieldAddr rfl fo43_4 rfl (.pt ((hH _ (by decide)).trans rfl) rfl rfl) (.pt _ _ _ _ _)) ?_
                    refine de_pure rfl rfl rfl rfl (fun H hH => yv_load rfl sh41 rfl (.pt ((hH _ (by decide)).trans rfl) rfl rfl) rfl) ?_
                    refine de_pure rfl rfl rfl rfl (fun H hH => yv_move rfl rfl) ?_
                    refine de_pure rfl rfl rfl rfl (fun H hH => yv_ixO rfl Try.underlying41 sh22 rfl rfl ((hH _ (by decide)).trans rfl) rfl rfl (Eq.symm rfl) len_ov e31) ?_
                    refine de_pure rfl rfl rfl rfl (fun H hH => yv_load rfl sh22 rfl (.pt ((hH _ (by decide)).trans rfl) rfl (set_get e31)) rfl) ?_
                    obtain ⟨p48, h1⟩ := asrt_e h1
                    refine de_pure rfl rfl rfl rfl (fun H hH => yv_slO (i := 1) (j := x31.length) rfl Try.underlying22 sh3 rfl ((hH _ (by decide)).trans rfl) rfl rfl (.yes rfl (by omega)) .no (by omega) (Nat.le_refl _) (.inl (by omega))) ?_
                    refine de_pure rfl rfl rfl rfl (fun H hH => yv_ixO rfl Try.underlying41 sh22 rfl rfl ((hH _ (by decide)).trans rfl) rfl rfl (Eq.symm rfl) len_ov e31) ?_
                    refine de_eff0 rfl rfl rfl rfl (Yield.weak (yl_ob (ob' := (⟨22, 1, true, true, v30, (x5.Costs.map (fL 1 fI)).set (Int.toNat x16) [.sl 7 v33 (0 + 1) (x31.length - 1)]⟩ : AObj)) (yl_store rfl sh22 rfl rfl rfl rfl rfl (set_get e31) rfl rfl rfl) (ob_eq set_setV)) (fun _ h => h) (fun _ _ => trivial)) (by rintro _ _ ⟨rfl, rfl⟩; exact trivial) ?_; rintro _ _ ⟨rfl, rfl⟩
                    refine de_nil (hK _ ?_)
                    refine c_nil (bn2 _ ?_)
                    obtain rfl := nxt_e h1
                    refine c_nil (jn1 _ ⟨(x5.Entities, x5.Periods, 0, x5.Methods.length, x5.Weights, (0 + 1), (x31.length - 1), x26, x31), v23, rfl, leH_kn ⟨⟨_, rfl, (.refl _)⟩, ⟨_, rfl, (.refl _)⟩, ⟨_, rfl, (.refl _)⟩, ⟨_, rfl, (.refl _)⟩, trivial⟩ ⟨⟨_, rfl, (.refl _)⟩, ⟨_, rfl, (.refl _)⟩, ⟨_, rfl, (.refl _)⟩, ⟨_, rfl, (.refl _)⟩, ⟨_, rfl, (.refl _)⟩, ⟨_, rfl, (.refl _)⟩, trivial⟩⟩)
                  · intro hb; subst hb; replace h1 := cf h1
                    refine c_seq ?_
                    refine c_reg ?_; intro K hK
                    obtain ⟨x49, e49, h1⟩ := bnd_e h1
                    refine st rfl rfl rfl (yv_to (y := boo x49) (yv_eql rfl rfl rfl) (congrArg boo e49)) ?_
                    refine st rfl rfl rfl (yv_assign rfl rfl) ?_
                    refine rg_nil (hK _ ?_)
                    refine c_if (b := x49) rfl ?_ ?_
                    · intro hb; subst hb; replace h1 := ct h1
                      refine c_reg ?_; intro K hK
                      refine st rfl rfl rfl (yv_fieldAddr rfl fo43_3 rfl (.pt rfl rfl rfl) (.pt _ _ _ _ _)) ?_
                      refine st rfl rfl rfl (yv_load rfl sh41 rfl (.pt rfl rfl rfl) rfl) ?_
                      obtain ⟨p50, h1⟩ := asrt_e h1
                      refine st rfl rfl rfl (yv_slO (i := 1) (j := x5.Methods.length) rfl Try.underlying41 sh22 rfl rfl rfl rfl (.yes rfl (by omega)) .no (by omega) (Nat.le_refl _) (.inl (by omega))) ?_
                      refine st rfl rfl rfl (yv_fieldAddr rfl fo43_3 rfl (.pt rfl rfl rfl) (.pt _ _ _ _ _)) ?_
                      refine sstore rfl rfl (yl_ob (ob' := (⟨43, 5, true, true, v6, [[int x5.Entities, int x5.Periods, .sl 3 v23 0 x5.Weights.length, .sl 4 v25 (0 + 1) (x5.Methods.length - 1), .sl 6 v30 0 x5.Costs.length]]⟩ : AObj)) (yl_store rfl sh41 rfl rfl rfl rfl rfl rfl rfl rfl rfl) rfl) ?_
                      refine rg_nil (hK _ ?_)
                      refine c_nil (bn2 _ ?_)
                      obtain rfl := nxt_e h1
                      refine c_nil (jn1 _ ⟨(x5.Entities, x5.Periods, (0 + 1), (x5.Methods.length - 1), x5.Weights, 0, x31.length, x26, x31), v23, rfl, leH_kn ⟨⟨_, rfl, (.refl _)⟩, ⟨_, rfl, (.refl _)⟩, ⟨_, rfl, (.refl _)⟩, ⟨_, rfl, (.refl _)⟩, trivial⟩ ⟨⟨_, rfl, (.refl _)⟩, ⟨_, rfl, (.refl _)⟩, ⟨_, rfl, (.refl _)⟩, ⟨_, rfl, (.refl _)⟩, ⟨_, rfl, (.refl _)⟩, ⟨_, rfl, (.refl _)⟩, trivial⟩⟩)
                    · intro hb; subst hb; replace h1 := cf h1
                      refine c_reg ?_; intro K hK
                      refine st rfl rfl rfl (yv_fieldAddr rfl fo43_2 rfl (.pt rfl rfl rfl) (.pt _ _ _ _ _)) ?_
                      refine st rfl rfl rfl (yv_load rfl sh22 rfl (.pt rfl rfl rfl) rfl) ?_
                      refine st rfl rfl rfl (yv_to (y := lst 1 fI ([1] : List Int)) (yv_buildSlice (ps := [(0, _)]) (rows := [[int 1]]) rfl Try.underlying22 bz3 (.cons rfl .nil) (by kernel_rfl) rfl rfl rfl) rfl) ?_
                      obtain ⟨x51, e51, h1⟩ := bnd_e h1
                      obtain ⟨p52, h1⟩ := asrt_e h1
                      refine se rfl rfl rfl (yl_appT (g := fI) (l := x5.Weights) (m := ([1] : List Int)) .any rfl Try.underlying22 bz3 by3 rfl rfl rfl rfl rfl rfl rfl rfl rfl rfl (Eq.symm rfl) (.refl _) (fun _ => rfl) e51 p52) ?_; rintro _ _ ⟨v53, -, rfl, rfl⟩
                      refine st rfl rfl rfl (yv_fieldAddr rfl fo43_2 rfl (.pt rfl rfl rfl) (.pt _ _ _ _ _)) ?_
                      refine sstore rfl rfl (yl_ob (ob' := (⟨43, 5, true, true, v6, [[int x5.Entities, int x5.Periods, .sl 3 v53 0 x51.length, .sl 4 v25 0 x5.Methods.length, .sl 6 v30 0 x5.Costs.length]]⟩ : AObj)) (yl_store rfl sh22 rfl rfl rfl rfl rfl rfl rfl rfl rfl) rfl) ?_
                      refine rg_nil (hK _ ?_)
                      refine c_nil (bn2 _ ?_)
                      obtain rfl := nxt_e h1
                      refine c_nil (jn1 _ ⟨(x5.Entities, x5.Periods, 0, x5.Methods.length, x51, 0, x31.length, x26, x31), v53, rfl, leH_kn ⟨⟨_, rfl, (.refl _)⟩, ⟨_, rfl, (.refl _)⟩, ⟨_, rfl, (.refl _)⟩, ⟨_, rfl, (.refl _)⟩, trivial⟩ ⟨⟨_, rfl, (.refl _)⟩, ⟨_, rfl, (.refl _)⟩, ⟨_, rfl, (.refl _)⟩, ⟨_, rfl, (.refl _)⟩, ⟨_, rfl, (.refl _)⟩, ⟨_, rfl, (.refl _)⟩, trivial⟩⟩)
      · rintro ⟨y1_1, y1_2, y1_4, y1_5, y1_6, y1_7, y1_8, y1_9, y1_10⟩ w1_3 rfl
        replace h0 := p2_e h0
        replace h0 := p2_e h0
        replace h0 := p2_e h0
        replace h0 := p2_e h0
        replace h0 := p2_e h0
        replace h0 := p2_e h0
        replace h0 := p2_e h0
        replace h0 := p2_e h0
        refine c_show ⟨kn [(3, int a4), (8, boo false), (9, .pt 1 v6 0 0), (10, str x7)], hk [(1, ⟨43, 5, true, true, v6, [[int y1_1, int y1_2, .sl 3 w1_3 0 y1_6.length, .sl 4 v25 y1_4 y1_5, .sl 6 v30 0 x5.Costs.length]]⟩), (3, ⟨3, 1, true, true, w1_3, y1_6.map fI⟩), (4, ⟨22, 1, true, true, v25, (x5.Methods.map (fL 1 fI)).set (Int.toNat x16) [.sl 5 v28 0 y1_9.length]⟩), (5, ⟨3, 1, true, true, v28, y1_9.map fI⟩), (6, ⟨22, 1, true, true, v30, (x5.Costs.map (fL 1 fI)).set (Int.toNat x16) [.sl 7 v33 y1_7 y1_8]⟩), (7, ⟨3, 1, true, true, v33, y1_10.map fI⟩)]⟩ ?_
        refine c_seq ?_
        refine c_reg ?_; intro K hK
        refine st rfl rfl rfl (yv_move rfl rfl) ?_
        refine st rfl rfl rfl (yv_move rfl rfl) ?_
        refine st rfl rfl rfl (yv_move rfl rfl) ?_
        refine st rfl rfl rfl (yv_len_str rfl Try.underlying9 rfl) ?_
        obtain ⟨x54, e54, h0⟩ := bind_e h0
        refine st rfl rfl rfl (yv_callP rfl rfl (.cons rfl (.cons rfl .nil)) cal11 (CvL.refl _) (d_law00_Place_c e54)) ?_
        obtain ⟨p55, h0⟩ := asrt_e h0
        obtain ⟨x56, e56, h0⟩ := bnd_e h0
        refine st rfl rfl rfl (yv_to (y := str x56) (yv_slice_str (i := 0) (j := x54.toNat) rfl Try.underlying9 rfl .no (.yes rfl (by omega)) (by omega) (by omega)) (congrArg str e56)) ?_
        obtain ⟨x57, e57, h0⟩ := bind_e h0
        refine st rfl rfl rfl (yv_callP rfl rfl (.cons rfl .nil) cal26 (CvL.refl _) (d_master_Read_c e57)) ?_
        refine st rfl rfl rfl (yv_move rfl rfl) ?_
        refine st rfl rfl rfl (yv_extract rfl rfl rfl) ?_
        refine st rfl rfl rfl (yv_extract rfl rfl rfl) ?_
        refine se rfl rfl rfl (yl_alloc 8 .any rfl z43 rfl) ?_; rintro _ _ ⟨v58, -, rfl, rfl⟩
        refine sstore rfl rfl (yl_ob (ob' := (⟨43, 5, true, true, v58, [[int x57.1.Entities, int x57.1.Periods, lst 1 fI x57.1.Weights, lst 1 (fL 1 fI) x57.1.Methods, lst 1 (fL 1 fI) x57.1.Costs]]⟩ : AObj)) (yl_store rfl sh43 rfl rfl rfl rfl rfl rfl rfl rfl rfl) rfl) ?_
        refine st rfl rfl rfl (yv_assign rfl rfl) ?_
        refine rg_nil (hK _ ?_)
        refine c_seq ?_
        refine c_reg ?_; intro K hK
        refine st rfl rfl rfl (yv_load rfl sh43 rfl (.pt rfl rfl rfl) rfl) ?_
        obtain ⟨p59, h0⟩ := asrt_e h0
        obtain ⟨p60, h0⟩ := asrt_e h0
        obtain ⟨x61, e61, h0⟩ := bind_e h0
        refine se rfl rfl rfl (Yield.frz 3 rfl (Yield.frz 4 rfl (Yield.frz 5 rfl (Yield.frz 6 rfl (Yield.frz 7 rfl (Yield.weak (yv_callP rfl rfl (.cons rfl .nil) cal28 (.cons (CvL.agg (.cons (.refl _) (.cons (.refl _) (.cons (cv_lst rfl rfl rfl rfl rfl (Eq.symm rfl)) (.cons (cv_win (l := (x5.Methods.set (Int.toNat x16) y1_9)) rfl rfl rfl rfl (cvll_ov rfl (.cons (cv_lst rfl rfl rfl rfl rfl (Eq.symm rfl)) .nil)) (by first | omega | (simp only [List.length_set]; omega)) rfl) (.cons (cv_ov rfl rfl rfl rfl rfl (Eq.symm rfl) e31 (.cons (cv_win (l := y1_10) rfl rfl rfl rfl (CvLL.refl _) (by first | omega | (simp only [List.length_set]; omega)) rfl) .nil)) .nil)))))) .nil) (d_master_Start_c e61)) (fun _ h => h) (fun _ h => h.elim))))))) ?_; rintro _ _ ⟨rfl, rfl⟩
        refine st rfl rfl rfl (yv_move rfl rfl) ?_
        refine st rfl rfl rfl (yv_extract rfl rfl rfl) ?_
        refine st rfl rfl rfl (yv_extract rfl rfl rfl) ?_
        refine se rfl rfl rfl (yl_alloc 9 .any rfl z53 rfl) ?_; rintro _ _ ⟨v62, -, rfl, rfl⟩
        refine sstore rfl rfl (yl_ob (ob' := (⟨53, 10, true, true, v62, [[int x61.1.Master.Entities, int x61.1.Master.Periods, lst 1 fI x61.1.Master.Weights, lst 1 (fL 1 fI) x61.1.Master.Methods, lst 1 (fL 1 fI) x61.1.Master.Costs, lst 8 GEnt.av x61.1.Ents, lst 8 GReceipt.av x61.1.Receipts, lst 9 GSale.av x61.1.Sales, lst 6 GTransit.av x61.1.Transits, int x61.1.Done]]⟩ : AObj)) (yl_store rfl sh53 rfl rfl rfl rfl rfl rfl rfl rfl rfl) rfl) ?_
        refine st rfl rfl rfl (yv_assign rfl rfl) ?_
        refine rg_nil (hK _ ?_)
        refine c_seq ?_
        refine c_reg ?_; intro K hK
        refine st rfl rfl rfl (yv_load rfl sh43 rfl (.pt rfl rfl rfl) rfl) ?_
        obtain ⟨p63, h0⟩ := asrt_e h0
        obtain ⟨p64, h0⟩ := asrt_e h0
        obtain ⟨x65, e65, h0⟩ := bind_e h0
        refine st rfl rfl rfl (yv_callP rfl rfl (.cons rfl .nil) cal29 (.cons (CvL.agg (.cons (.refl _) (.cons (.refl _) (.cons (cv_lst rfl rfl rfl rfl rfl (Eq.symm rfl)) (.cons (cv_win (l := (x5.Methods.set (Int.toNat x16) y1_9)) rfl rfl rfl rfl (cvll_ov rfl (.cons (cv_lst rfl rfl rfl rfl rfl (Eq.symm rfl)) .nil)) (by first | omega | (simp only [List.length_set]; omega)) rfl) (.cons (cv_ov rfl rfl rfl rfl rfl (Eq.symm rfl) e31 (.cons (cv_win (l := y1_10) rfl rfl rfl rfl (CvLL.refl _) (by first | omega | (simp only [List.length_set]; omega)) rfl) .nil)) .nil)))))) .nil) (d_ref04_Start_c e65)) ?_
        refine st rfl rfl rfl (yv_move rfl rfl) ?_
        refine st rfl rfl rfl (yv_extract rfl rfl rfl) ?_
        refine st rfl rfl rfl (yv_extract rfl rfl rfl) ?_
        refine se rfl rfl rfl (yl_alloc 10 .any rfl z53 rfl) ?_; rintro _ _ ⟨v66, -, rfl, rfl⟩
        refine sstore rfl rfl (yl_ob (ob' := (⟨53, 10, true, true, v66, [[int x65.1.Master.Entities, int x65.1.Master.Periods, lst 1 fI x65.1.Master.Weights, lst 1 (fL 1 fI) x65.1.Master.Methods, lst 1 (fL 1 fI) x65.1.Master.Costs, lst 8 GEnt.av x65.1.Ents, lst 8 GReceipt.av x65.1.Receipts, lst 9 GSale.av x65.1.Sales, lst 6 GTransit.av x65.1.Transits, int x65.1.Done]]⟩ : AObj)) (yl_store rfl sh53 rfl rfl rfl rfl rfl rfl rfl rfl rfl) rfl) ?_
        refine st rfl rfl rfl (yv_assign rfl rfl) ?_
        refine rg_nil (hK _ ?_)
        refine c_seq ?_
        obtain ⟨j67, h1, h0⟩ := bind_e h0
        refine c_drawEL [0, 1, 0, 7, 15, 31, 63, 127, 63, 511, 1023, 2047, 4095, 8191, 16383, 32767, 65535, 131071, 131071, 524287, 1048575, 2097151, 4194303, 4194303, 16777215, 33554431, 67108863, 134217727, 268435455, 536870911] (fun i => bif Nat.beq i 0 then ([1]) else bif Nat.beq i 1 then ([3, 4, 5, 6, 7]) else bif Nat.beq i 2 then ([1]) else bif Nat.beq i 3 then ([3, 4, 5, 6, 7]) else bif Nat.beq i 6 then ([1]) else bif Nat.beq i 7 then ([3, 4, 5, 6, 7]) else bif Nat.beq i 8 then ([1]) else bif Nat.beq i 9 then ([3, 4, 5, 6, 7]) else bif Nat.beq i 22 then ([9]) else bif Nat.beq i 23 then ([10]) else []) (fun i => [1, 3, 4, 5, 6, 7, 9, 10]) (fun i => true) [0, 1, 2, 3, 4, 5, 6, 7, 8, 9, 10, 11, 12, 13, 14, 15, 16, 17, 18, 19, 20, 21, 22, 23, 24, 25, 26, 27, 28, 29] (fun (a : Bool) (k : Unit) => ⟨kn [(8, boo a)], hk []⟩) (fun a => a = j67) mixed (by kernel_rfl) ?_ ?_
        · intro K hK
          refine de_pure rfl rfl rfl rfl (fun H hH => yv_load rfl sh43 rfl (.pt ((hH _ (by decide)).trans rfl) rfl rfl) rfl) ?_
          obtain ⟨p68, h1⟩ := asrt_e h1
          obtain ⟨p69, h1⟩ := asrt_e h1
          obtain ⟨x70, e70, h1⟩ := bind_e h1
          refine de_pure rfl rfl rfl rfl (fun H hH => yv_callP rfl rfl (.cons rfl .nil) cal30 (.cons (CvL.agg (.cons (.refl _) (.cons (.refl _) (.cons (cv_lst (ob := (⟨3, 1, false, true, w1_3, y1_6.map fI⟩ : AObj)) ((hH _ (by decide)).trans rfl) rfl rfl rfl rfl (Eq.symm rfl)) (.cons (cv_win (l := (x5.Methods.set (Int.toNat x16) y1_9)) (ob := (⟨22, 1, false, true, v25, (x5.Methods.map (fL 1 fI)).set (Int.toNat x16) [.sl 5 v28 0 y1_9.length]⟩ : AObj)) ((hH _ (by decide)).trans rfl) rfl rfl rfl (cvll_ov rfl (.cons (cv_lst (ob := (⟨3, 1, false, true, v28, y1_9.map fI⟩ : AObj)) ((hH _ (by decide)).trans rfl) rfl rfl rfl rfl (Eq.symm rfl)) .nil)) (by first | omega | (simp only [List.length_set]; omega)) rfl) (.cons (cv_ov (ob := (⟨22, 1, false, true, v30, (x5.Costs.map (fL 1 fI)).set (Int.toNat x16) [.sl 7 v33 y1_7 y1_8]⟩ : AObj)) ((hH _ (by decide)).trans rfl) rfl rfl rfl rfl (Eq.symm rfl) e31 (.cons (cv_win (l := y1_10) (ob := (⟨3, 1, false, true, v33, y1_10.map fI⟩ : AObj)) ((hH _ (by decide)).trans rfl) rfl rfl rfl (CvLL.refl _) (by first | omega | (simp only [List.length_set]; omega)) rfl) .nil)) .nil)))))) .nil) (d_master_Check_c e70)) ?_
          refine de_pure rfl rfl rfl rfl (fun H hH => yv_load rfl sh43 rfl (.pt ((hH _ (by decide)).trans rfl) rfl rfl) rfl) ?_
          obtain ⟨p71, h1⟩ := asrt_e h1
          obtain ⟨p72, h1⟩ := asrt_e h1
          obtain ⟨x73, e73, h1⟩ := bind_e h1
          refine de_pure rfl rfl rfl rfl (fun H hH => yv_callP rfl rfl (.cons rfl .nil) cal31 (.cons (CvL.agg (.cons (.refl _) (.cons (.refl _) (.cons (cv_lst (ob := (⟨3, 1, false, true, w1_3, y1_6.map fI⟩ : AObj)) ((hH _ (by decide)).trans rfl) rfl rfl rfl rfl (Eq.symm rfl)) (.cons (cv_win (l := (x5.Methods.set (Int.toNat x16) y1_9)) (ob := (⟨22, 1, false, true, v25, (x5.Methods.map (fL 1 fI)).set (Int.toNat x16) [.sl 5 v28 0 y1_9.length]⟩ : AObj)) ((hH _ (by decide)).trans rfl) rfl rfl rfl (cvll_ov rfl (.cons (cv_lst (ob := (⟨3, 1, false, true, v28, y1_9.map fI⟩ : AObj)) ((hH _ (by decide)).trans rfl) rfl rfl rfl rfl (Eq.symm rfl)) .nil)) (by first | omega | (simp only [List.length_set]; omega)) rfl) (.cons (cv_ov (ob := (⟨22, 1, false, true, v30, (x5.Costs.map (fL 1 fI)).set (Int.toNat x16) [.sl 7 v33 y1_7 y1_8]⟩ : AObj)) ((hH _ (by decide)).trans rfl) rfl rfl rfl rfl (Eq.symm rfl) e31 (.cons (cv_win (l := y1_10) (ob := (⟨3, 1, false, true, v33, y1_10.map fI⟩ : AObj)) ((hH _ (by decide)).trans rfl) rfl rfl rfl (CvLL.refl _) (by first | omega | (simp only [List.length_set]; omega)) rfl) .nil)) .nil)))))) .nil) (d_ref04_Check_c e73)) ?_
          obtain ⟨x74, e74, h1⟩ := bnd_e h1
          refine de_pure rfl rfl rfl rfl (fun H hH => yv_to (y := boo x74) (yv_beql rfl Try.underlying4 rfl rfl) (congrArg boo e74)) ?_
          refine de_pure rfl rfl rfl rfl (fun H hH => yv_move rfl rfl) ?_
          refine de_cases (b := x74) 178 rfl ?_ ?_
          · intro hb; subst hb; replace h1 := ct h1
            refine de_pure rfl rfl rfl rfl (fun H hH => yv_load rfl sh43 rfl (.pt ((hH _ (by decide)).trans rfl) rfl rfl) rfl) ?_
            obtain ⟨p75, h1⟩ := asrt_e h1
            obtain ⟨p76, h1⟩ := asrt_e h1
            obtain ⟨x77, e77, h1⟩ := bind_e h1
            refine de_pure rfl rfl rfl rfl (fun H hH => yv_callP rfl rfl (.cons rfl .nil) cal34 (.cons (CvL.agg (.cons (.refl _) (.cons (.refl _) (.cons (cv_lst (ob := (⟨3, 1, false, true, w1_3, y1_6.map fI⟩ : AObj)) ((hH _ (by decide)).trans rfl) rfl rfl rfl rfl (Eq.symm rfl)) (.cons (cv_win (l := (x5.Methods.set (Int.toNat x16) y1_9)) (ob := (⟨22, 1, false, true, v25, (x5.Methods.map (fL 1 fI)).set (Int.toNat x16) [.sl 5 v28 0 y1_9.length]⟩ : AObj)) ((hH _ (by decide)).trans rfl) rfl rfl rfl (cvll_ov rfl (.cons (cv_lst (ob := (⟨3, 1, false, true, v28, y1_9.map fI⟩ : AObj)) ((hH _ (by decide)).trans rfl) rfl rfl rfl rfl (Eq.symm rfl)) .nil)) (by first | omega | (simp only [List.length_set]; omega)) rfl) (.cons (cv_ov (ob := (⟨22, 1, false, true, v30, (x5.Costs.map (fL 1 fI)).set (Int.toNat x16) [.sl 7 v33 y1_7 y1_8]⟩ : AObj)) ((hH _ (by decide)).trans rfl) rfl rfl rfl rfl (Eq.symm rfl) e31 (.cons (cv_win (l := y1_10) (ob := (⟨3, 1, false, true, v33, y1_10.map fI⟩ : AObj)) ((hH _ (by decide)).trans rfl) rfl rfl rfl (CvLL.refl _) (by first | omega | (simp only [List.length_set]; omega)) rfl) .nil)) .nil)))))) .nil) (d_master_Bytes_c e77)) ?_
            refine de_pure rfl rfl rfl rfl (fun H hH => yv_load rfl sh43 rfl (.pt ((hH _ (by decide)).trans rfl) rfl rfl) rfl) ?_
            obtain ⟨p78, h1⟩ := asrt_e h1
            obtain ⟨p79, h1⟩ := asrt_e h1
            obtain ⟨x80, e80, h1⟩ := bind_e h1
            refine de_pure rfl rfl rfl rfl (fun H hH => yv_callP rfl rfl (.cons rfl .nil) cal35 (.cons (CvL.agg (.cons (.refl _) (.cons (.refl _) (.cons (cv_lst (ob := (⟨3, 1, false, true, w1_3, y1_6.map fI⟩ : AObj)) ((hH _ (by decide)).trans rfl) rfl rfl rfl rfl (Eq.symm rfl)) (.cons (cv_win (l := (x5.Methods.set (Int.toNat x16) y1_9)) (ob := (⟨22, 1, false, true, v25, (x5.Methods.map (fL 1 fI)).set (Int.toNat x16) [.sl 5 v28 0 y1_9.length]⟩ : AObj)) ((hH _ (by decide)).trans rfl) rfl rfl rfl (cvll_ov rfl (.cons (cv_lst (ob := (⟨3, 1, false, true, v28, y1_9.map fI⟩ : AObj)) ((hH _ (by decide)).trans rfl) rfl rfl rfl rfl (Eq.symm rfl)) .nil)) (by first | omega | (simp only [List.length_set]; omega)) rfl) (.cons (cv_ov (ob := (⟨22, 1, false, true, v30, (x5.Costs.map (fL 1 fI)).set (Int.toNat x16) [.sl 7 v33 y1_7 y1_8]⟩ : AObj)) ((hH _ (by decide)).trans rfl) rfl rfl rfl rfl (Eq.symm rfl) e31 (.cons (cv_win (l := y1_10) (ob := (⟨3, 1, false, true, v33, y1_10.map fI⟩ : AObj)) ((hH _ (by decide)).trans rfl) rfl rfl rfl (CvLL.refl _) (by first | omega | (simp only [List.length_set]; omega)) rfl) .nil)) .nil)))))) .nil) (d_ref04_Bytes_c e80)) ?_
            obtain ⟨x81, e81, h1⟩ := bnd_e h1
            refine de_pure rfl rfl rfl rfl (fun H hH => yv_to (y := boo x81) (yv_seql rfl rfl rfl) (congrArg boo e81)) ?_
            refine de_pure rfl rfl rfl rfl (fun H hH => yv_pick rfl rfl (fun _ => rfl) (fun _ => rfl) rfl) ?_
            refine de_pure rfl rfl rfl rfl (fun H hH => yv_move rfl rfl) ?_
            refine de_cases (b := x81) 185 rfl ?_ ?_
            · intro hb; subst hb; replace h1 := ct h1
              refine de_pure rfl rfl rfl rfl (fun H hH => yv_move rfl rfl) ?_
              obtain ⟨x82, e82, h1⟩ := bnd_e h1
              refine de_pure rfl rfl rfl rfl (fun H hH => yv_to (y := boo x82) (yv_eql rfl rfl rfl) (congrArg boo e82)) ?_
              refine de_pure rfl rfl rfl rfl (fun H hH => yv_pick rfl rfl (fun _ => rfl) (fun _ => rfl) rfl) ?_
              refine de_pure rfl rfl rfl rfl (fun H hH => yv_move rfl rfl) ?_
              refine de_cases (b := x82) 189 rfl ?_ ?_
              · intro hb; subst hb; replace h1 := ct h1
                refine de_pure rfl rfl rfl rfl (fun H hH => yv_move rfl rfl) ?_
                refine de_pure rfl rfl rfl rfl (fun H hH => yv_move rfl rfl) ?_
                obtain ⟨x83, e83, h1⟩ := bnd_e h1
                refine de_pure rfl rfl rfl rfl (fun H hH => yv_to (y := boo x83) (yv_eql rfl rfl rfl) (congrArg boo e83)) ?_
                refine de_pure rfl rfl rfl rfl (fun H hH => yv_pick rfl rfl (fun _ => rfl) (fun _ => rfl) rfl) ?_
                refine de_pure rfl rfl rfl rfl (fun H hH => yv_move rfl rfl) ?_
                refine de_cases (b := x83) 194 rfl ?_ ?_
                · intro hb; subst hb; replace h1 := ct h1
                  refine de_pure rfl rfl rfl rfl (fun H hH => yv_load rfl sh53 rfl (.pt ((hH _ (by decide)).trans rfl) rfl rfl) rfl) ?_
                  refine de_pure rfl rfl rfl rfl (fun H hH => yv_load rfl sh53 rfl (.pt ((hH _ (by decide)).trans rfl) rfl rfl) rfl) ?_
                  obtain ⟨x84, e84, h1⟩ := bind_e h1
                  refine de_pure rfl rfl rfl rfl (fun H hH => yv_callP rfl rfl (.cons rfl (.cons rfl .nil)) cal36 (CvL.refl _) (d_ref14_Same_c e84)) ?_
                  refine de_pure rfl rfl rfl rfl (fun H hH => yv_pick rfl rfl (fun _ => rfl) (fun _ => rfl) rfl) ?_
                  refine de_pure rfl rfl rfl rfl (fun H hH => yv_move rfl rfl) ?_
                  refine de_cases (b := x84) 199 rfl ?_ ?_
                  · intro hb; subst hb; replace h1 := ct h1
                    obtain ⟨x85, e85, h1⟩ := bind_e h1
                    refine de_pure rfl rfl rfl rfl (fun H hH => yv_callP rfl rfl .nil cal25 (CvL.refl _) (d_law04_awake_c e85)) ?_
                    refine de_pure rfl rfl rfl rfl (fun H hH => yv_pick rfl rfl (fun _ => rfl) (fun _ => rfl) rfl) ?_
                    refine de_pure rfl rfl rfl rfl (fun H hH => yv_assign rfl rfl) ?_
                    obtain rfl := nxt_e h1
                    refine de_nil (hK _ ⟨x85, (), rfl, leH_kn ⟨⟨_, rfl, (.refl _)⟩, trivial⟩ trivial⟩)
                  · intro hb; subst hb; replace h1 := cf h1
                    refine de_skip rfl rfl rfl ?_
                    refine de_pure rfl rfl rfl rfl (fun H hH => yv_pick rfl rfl (fun _ => rfl) (fun _ => rfl) rfl) ?_
                    refine de_pure rfl rfl rfl rfl (fun H hH => yv_assign rfl rfl) ?_
                    obtain rfl := nxt_e h1
                    refine de_nil (hK _ ⟨false, (), rfl, leH_kn ⟨⟨_, rfl, (.refl _)⟩, trivial⟩ trivial⟩)
                · intro hb; subst hb; replace h1 := cf h1
                  refine de_skip rfl rfl rfl ?_
                  refine de_skip rfl rfl rfl ?_
                  refine de_skip rfl rfl rfl ?_
                  refine de_pure rfl rfl rfl rfl (fun H hH => yv_pick rfl rfl (fun _ => rfl) (fun _ => rfl) rfl) ?_
                  refine de_pure rfl rfl rfl rfl (fun H hH => yv_move rfl rfl) ?_
                  refine de_skip rfl rfl rfl ?_
                  refine de_pure rfl rfl rfl rfl (fun H hH => yv_pick rfl rfl (fun _ => rfl) (fun _ => rfl) rfl) ?_
                  refine de_pure rfl rfl rfl rfl (fun H hH => yv_assign rfl rfl) ?_
                  obtain rfl := nxt_e h1
                  refine de_nil (hK _ ⟨false, (), rfl, leH_kn ⟨⟨_, rfl, (.refl _)⟩, trivial⟩ trivial⟩)
              · intro hb; subst hb; replace h1 := cf h1
                refine de_skip rfl rfl rfl ?_
                refine de_skip rfl rfl rfl ?_
                refine de_skip rfl rfl rfl ?_
                refine de_pure rfl rfl rfl rfl (fun H hH => yv_pick rfl rfl (fun _ => rfl) (fun _ => rfl) rfl) ?_
                refine de_pure rfl rfl rfl rfl (fun H hH => yv_move rfl rfl) ?_
                refine de_skip rfl rfl rfl ?_
                refine de_skip rfl rfl rfl ?_
                refine de_skip rfl rfl rfl ?_
                refine de_pure rfl rfl rfl rfl (fun H hH => yv_pick rfl rfl (fun _ => rfl) (fun _ => rfl) rfl) ?_
                refine de_pure rfl rfl rfl rfl (fun H hH => yv_move rfl rfl) ?_
                refine de_skip rfl rfl rfl ?_
                refine de_pure rfl rfl rfl rfl (fun H hH => yv_pick rfl rfl (fun _ => rfl) (fun _ => rfl) rfl) ?_
                refine de_pure rfl rfl rfl rfl (fun H hH => yv_assign rfl rfl) ?_
                obtain rfl := nxt_e h1
                refine de_nil (hK _ ⟨false, (), rfl, leH_kn ⟨⟨_, rfl, (.refl _)⟩, trivial⟩ trivial⟩)
            · intro hb; subst hb; replace h1 := cf h1
              refine de_skip rfl rfl rfl ?_
              refine de_skip rfl rfl rfl ?_
              refine de_pure rfl rfl rfl rfl (fun H hH => yv_pick rfl rfl (fun _ => rfl) (fun _ => rfl) rfl) ?_
              refine de_pure rfl rfl rfl rfl (fun H hH => yv_move rfl rfl) ?_
              refine de_skip rfl rfl rfl ?_
              refine de_skip rfl rfl rfl ?_
              refine de_skip rfl rfl rfl ?_
              refine de_pure rfl rfl rfl rfl (fun H hH => yv_pick rfl rfl (fun _ => rfl) (fun _ => rfl) rfl) ?_
              refine de_pure rfl rfl rfl rfl (fun H hH => yv_move rfl rfl) ?_
              refine de_skip rfl rfl rfl ?_
              refine de_skip rfl rfl rfl ?_
              refine de_skip rfl rfl rfl ?_
              refine de_pure rfl rfl rfl rfl (fun H hH => yv_pick rfl rfl (fun _ => rfl) (fun _ => rfl) rfl) ?_
              refine de_pure rfl rfl rfl rfl (fun H hH => yv_move rfl rfl) ?_
              refine de_skip rfl rfl rfl ?_
              refine de_pure rfl rfl rfl rfl (fun H hH => yv_pick rfl rfl (fun _ => rfl) (fun _ => rfl) rfl) ?_
              refine de_pure rfl rfl rfl rfl (fun H hH => yv_assign rfl rfl) ?_
              obtain rfl := nxt_e h1
              refine de_nil (hK _ ⟨false, (), rfl, leH_kn ⟨⟨_, rfl, (.refl _)⟩, trivial⟩ trivial⟩)
          · intro hb; subst hb; replace h1 := cf h1
            refine de_skip rfl rfl rfl ?_
            refine de_skip rfl rfl rfl ?_
            refine de_skip rfl rfl rfl ?_
            refine de_skip rfl rfl rfl ?_
            refine de_skip rfl rfl rfl ?_
            refine de_pure rfl rfl rfl rfl (fun H hH => yv_pick rfl rfl (fun _ => rfl) (fun _ => rfl) rfl) ?_
            refine de_pure rfl rfl rfl rfl (fun H hH => yv_move rfl rfl) ?_
            refine de_skip rfl rfl rfl ?_
            refine de_skip rfl rfl rfl ?_
            refine de_pure rfl rfl rfl rfl (fun H hH => yv_pick rfl rfl (fun _ => rfl) (fun _ => rfl) rfl) ?_
            refine de_pure rfl rfl rfl rfl (fun H hH => yv_move rfl rfl) ?_
            refine de_skip rfl rfl rfl ?_
            refine de_skip rfl rfl rfl ?_
            refine de_skip rfl rfl rfl ?_
            refine de_pure rfl rfl rfl rfl (fun H hH => yv_pick rfl rfl (fun _ => rfl) (fun _ => rfl) rfl) ?_
            refine de_pure rfl rfl rfl rfl (fun H hH => yv_move rfl rfl) ?_
            refine de_skip rfl rfl rfl ?_
            refine de_skip rfl rfl rfl ?_
            refine de_skip rfl rfl rfl ?_
            refine de_pure rfl rfl rfl rfl (fun H hH => yv_pick rfl rfl (fun _ => rfl) (fun _ => rfl) rfl) ?_
            refine de_pure rfl rfl rfl rfl (fun H hH => yv_move rfl rfl) ?_
            refine de_skip rfl rfl rfl ?_
            refine de_pure rfl rfl rfl rfl (fun H hH => yv_pick rfl rfl (fun _ => rfl) (fun _ => rfl) rfl) ?_
            refine de_pure rfl rfl rfl rfl (fun H hH => yv_assign rfl rfl) ?_
            obtain rfl := nxt_e h1
            refine de_nil (hK _ ⟨false, (), rfl, leH_kn ⟨⟨_, rfl, (.refl _)⟩, trivial⟩ trivial⟩)
        · rintro y2_1 _ rfl
          refine c_show ⟨kn [(8, boo y2_1)], hk []⟩ ?_
          obtain rfl := nxt_e h0
          refine c_ret (hret _ _ _ (.tmp rfl .nil) (fun _ _ h => h) ?_)
          exact .refl _
def d_ref04_Read_L0 (x6 : Int) : Nat → Int → (List UInt8) → Bool → (List (List Int)) → Option ((List UInt8) × Bool × (List (List Int)))
  | 0, _, _, _, _ => none
  | n + 1, y0_1, y0_2, y0_3, y0_5 =>
    bnd (decide (y0_1 < x6)) fun (x18 : Bool) =>
    cond x18 (asrt (((y0_2, y0_3) : RS).1.length ≤ 1099511627776) <|
    asrt (((y0_2, y0_3) : RS).2 = true → ((y0_2, y0_3) : RS).1 = []) <|
    bnd (lstV ((y0_2, y0_3) : RS) 5) fun (x21 : List Int) =>
    bnd (lstR ((y0_2, y0_3) : RS) 5) fun (x22 : RS) =>
    bnd (y0_5 ++ ([x21] : List (List Int))) fun (x23 : List (List Int)) =>
    asrt (x23.length ≤ 68719476736) <|
    bnd (w64 (y0_1 + 1)) fun (x26 : Int) =>
    d_ref04_Read_L0 x6 n (x26 : Int) (x22.1 : List UInt8) (x22.2 : Bool) (x23 : List (List Int))) (some ((y0_2 : List UInt8), (y0_3 : Bool), (y0_5 : List (List Int))))
def d_ref04_Read_L1 (x6 : Int) : Nat → Int → (List UInt8) → Bool → (List (List Int)) → Option ((List UInt8) × Bool × (List (List Int)))
  | 0, _, _, _, _ => none
  | n + 1, y2_1, y2_2, y2_3, y2_5 =>
    bnd (decide (y2_1 < x6)) fun (x29 : Bool) =>
    cond x29 (asrt (((y2_2, y2_3) : RS).1.length ≤ 1099511627776) <|
    asrt (((y2_2, y2_3) : RS).2 = true → ((y2_2, y2_3) : RS).1 = []) <|
    bnd (lstV ((y2_2, y2_3) : RS) 5) fun (x32 : List Int) =>
    bnd (lstR ((y2_2, y2_3) : RS) 5) fun (x33 : RS) =>
    bnd (y2_5 ++ ([x32] : List (List Int))) fun (x34 : List (List Int)) =>
    asrt (x34.length ≤ 68719476736) <|
    bnd (w64 (y2_1 + 1)) fun (x37 : Int) =>
    d_ref04_Read_L1 x6 n (x37 : Int) (x33.1 : List UInt8) (x33.2 : Bool) (x34 : List (List Int))) (some ((y2_2 : List UInt8), (y2_3 : Bool), (y2_5 : List (List Int))))
def d_ref04_Read (n : Nat) (a1 : List UInt8) : Option (GMaster × Int) :=
asrt (((a1, false) : RS).1.length ≤ 9223372036854775806) <|
asrt (((a1, false) : RS).2 = true → ((a1, false) : RS).1 = []) <|
bnd (cntV ((a1, false) : RS) 4) fun (x6 : Int) =>
bnd (cntR ((a1, false) : RS) 4) fun (x7 : RS) =>
asrt (x7.1.length ≤ 9223372036854775806) <|
bnd (numV x7) fun (x9 : Int) =>
bnd (numR x7) fun (x10 : RS) =>
asrt (x10.1.length ≤ 1099511627776) <|
asrt (x10.2 = true → x10.1 = []) <|
bnd (lstV x10 5) fun (x13 : List Int) =>
bnd (lstR x10 5) fun (x14 : RS) =>
(show Option ((List UInt8) × Bool × (List (List Int))) from
d_ref04_Read_L0 x6 n (0 : Int) (x14.1 : List UInt8) (x14.2 : Bool) (([] : List (List Int)) : List (List Int))).bind <| p2 fun (y1_1 : List UInt8) (q0 : Bool × (List (List Int))) => (p2 fun (y1_2 : Bool) (y1_4 : List (List Int)) =>
(show Option ((List UInt8) × Bool × (List (List Int))) from
d_ref04_Read_L1 x6 n (0 : Int) (y1_1 : List UInt8) (y1_2 : Bool) (([] : List (List Int)) : List (List Int))).bind <| p2 fun (y3_1 : List UInt8) (q0 : Bool × (List (List Int))) => (p2 fun (y3_2 : Bool) (y3_4 : List (List Int)) =>
(show Option (Bool) from
(show Option ((Bool)) from
(show Option (Bool) from
bnd (!y3_2) fun (x41 : Bool) =>
cond x41 (bnd (decide (y3_1 = ([] : List UInt8))) fun (x42 : Bool) =>
some (x42 : Bool)) (some (false : Bool))).bind <| fun (y4_1 : Bool) =>
some (y4_1 : Bool)).bind <| fun (y5_1 : Bool) =>
bnd (!y5_1) fun (x43 : Bool) =>
cond x43 (some (true : Bool)) ((d_ref04_Check n (⟨x6, x9, x13, y1_4, y3_4⟩ : GMaster)).bind fun (x44 : Bool) =>
bnd (!x44) fun (x45 : Bool) =>
some (x45 : Bool))).bind <| fun (y6_1 : Bool) =>
cond y6_1 (some (((⟨0, 0, [], [], []⟩ : GMaster) : GMaster), (3 : Int))) (some (((⟨x6, x9, x13, y1_4, y3_4⟩ : GMaster) : GMaster), (0 : Int)))) q0) q0
theorem d_ref04_Read_c {n : Nat} {a1 : List UInt8} {r : GMaster × Int} (h0 : d_ref04_Read n a1 = some r) : PP Try.prog 27 [str a1] (fun y => y = .tup [.agg (GMaster.av r.1), int r.2]) := by
  unfold d_ref04_Read at h0
  refine pp_of_pc (R0 := fun y H => Cv (frzH H) y (.tup [.agg (GMaster.av r.1), int r.2])) ?_ (fun y H hc => ⟨_, rfl, .tup (pvl2 ((fun (a : GMaster) => PV.agg (GMaster.pvc a)) (r.1)) (pvI (r.2))), hc⟩)
  refine pc_of' (c := _) Try.func27 rfl rfl ?_; intro Q hret hnorm
  refine c_seq ?_
  refine c_reg ?_; intro K hK
  refine se rfl rfl rfl (yl_alloc 1 .any rfl z43 rfl) ?_; rintro _ _ ⟨v2, -, rfl, rfl⟩
  refine st rfl rfl rfl (yv_assign rfl rfl) ?_
  refine rg_nil (hK _ ?_)
  refine c_seq ?_
  refine c_reg ?_; intro K hK
  refine st rfl rfl rfl (yv_move rfl rfl) ?_
  refine st rfl rfl rfl (yv_build (cs := [str a1, boo false]) (ps := [(0, _)]) rfl pl28 z28 rfl (.cons rfl .nil) (by kernel_rfl)) ?_
  refine se rfl rfl rfl (yl_box 2 .any rfl rfl rfl) ?_; rintro _ _ ⟨v3, -, rfl, rfl⟩
  refine st rfl rfl rfl (yv_assign rfl rfl) ?_
  refine rg_nil (hK _ ?_)
  refine c_seq ?_
  refine c_reg ?_; intro K hK
  refine st rfl rfl rfl (yv_move rfl rfl) ?_
  obtain ⟨p4, h0⟩ := asrt_e h0
  obtain ⟨p5, h0⟩ := asrt_e h0
  obtain ⟨x6, e6, h0⟩ := bnd_e h0
  obtain ⟨x7, e7, h0⟩ := bnd_e h0
  refine se rfl rfl rfl (yl_call rfl rfl (.cons rfl (.cons rfl .nil)) cal15 (PC.mono (countR_c (most := 4) (s := ((a1, false) : RS)) (id := 2) (ver := v3) rfl p4 p5) (R' := fun y H' => y = int x6 ∧ H' = upd _ 2 (some (rdr 28 v3 x7))) (fun y H' h => ⟨h.1.trans (congrArg int e6), h.2.trans (rdr_cong e7)⟩))) ?_; rintro _ _ ⟨rfl, rfl⟩
  refine st rfl rfl rfl (yv_move rfl rfl) ?_
  obtain ⟨p8, h0⟩ := asrt_e h0
  obtain ⟨x9, e9, h0⟩ := bnd_e h0
  obtain ⟨x10, e10, h0⟩ := bnd_e h0
  refine se rfl rfl rfl (yl_call rfl rfl (.cons rfl .nil) cal13 (PC.mono (numR_c (s := x7) (id := 2) (ver := v3) rfl p8) (R' := fun y H' => y = int x9 ∧ H' = upd _ 2 (some (rdr 28 v3 x10))) (fun y H' h => ⟨h.1.trans (congrArg int e9), h.2.trans (rdr_cong e10)⟩))) ?_; rintro _ _ ⟨rfl, rfl⟩
  refine st rfl rfl rfl (yv_move rfl rfl) ?_
  obtain ⟨p11, h0⟩ := asrt_e h0
  obtain ⟨p12, h0⟩ := asrt_e h0
  obtain ⟨x13, e13, h0⟩ := bnd_e h0
  obtain ⟨x14, e14, h0⟩ := bnd_e h0
  refine se rfl rfl rfl (yl_call rfl rfl (.cons rfl (.cons rfl .nil)) cal18 (PC.mono (listR_c (most := 5) (s := x10) (id := 2) (ver := v3) rfl p11 p12 rfl) (R' := fun y H' => y = ints x13 ∧ H' = upd _ 2 (some (rdr 28 v3 x14))) (fun y H' h => ⟨h.1.trans (congrArg ints e13), h.2.trans (rdr_cong e14)⟩))) ?_; rintro _ _ ⟨rfl, rfl⟩
  refine st rfl rfl rfl (yv_build (cs := [int x6, int x9, lst 1 fI x13, .sc (.slice none 0 0), .sc (.slice none 0 0)]) (ps := [(0, _), (1, _), (2, _)]) rfl pl43 z43 rfl (.cons rfl (.cons rfl (.cons rfl .nil))) (by kernel_rfl)) ?_
  refine se rfl rfl rfl (yl_alloc 3 .any rfl z43 rfl) ?_; rintro _ _ ⟨v15, -, rfl, rfl⟩
  refine sstore rfl rfl (yl_ob (ob' := (⟨43, 5, true, true, v15, [[int x6, int x9, lst 1 fI x13, .sc (.slice none 0 0), .sc (.slice none 0 0)]]⟩ : AObj)) (yl_store rfl sh43 rfl rfl rfl rfl rfl rfl rfl rfl rfl) rfl) ?_
  refine rg_nil (hK _ ?_)
  refine c_seq ?_
  refine c_seq ?_
  refine c_reg ?_; intro K hK
  refine st rfl rfl rfl (yv_assign rfl rfl) ?_
  refine rg_nil (hK _ ?_)
  obtain ⟨j16, h1, h0⟩ := bind_e h0
  refine c_joinL (fun (a : (List UInt8) × Bool × (List (List Int))) (k : Nat) => ⟨kn [(2, .pt 1 v2 0 0), (3, int 0), (4, .pt 2 v3 0 0), (5, .pt 3 v15 0 0)], hk [(1, ⟨43, 5, true, true, v2, [[int 0, int 0, .sc (.slice none 0 0), .sc (.slice none 0 0), .sc (.slice none 0 0)]]⟩), (2, ⟨28, 2, true, true, v3, [[str a.1, boo a.2.1]]⟩), (3, ⟨43, 5, true, true, v15, [[int x6, int x9, lst 1 fI x13, .sl 4 k 0 a.2.2.length, .sc (.slice none 0 0)]]⟩), (4, ⟨22, 1, true, true, k, a.2.2.map (fL 1 fI)⟩)]⟩) (fun a => a = j16) ?_ ?_
  · intro Q1 jn1 jx1 jr1
    refine c_block ?_; intro Q2 bn2 bx2 br2 bo2
    refine c_nilcell 3 0 3 4 22 1 (rows := fun v17 => [[int x6, int x9, lst 1 fI x13, .sl 4 v17 0 0, .sc (.slice none 0 0)]]) rfl rfl rfl rfl (fun _ => rfl) ?_; intro v17
    refine c_loopD (fun (a : Int × (List UInt8) × Bool × (List (List Int))) (k : Nat) => ⟨kn [(2, .pt 1 v2 0 0), (3, int 0), (4, .pt 2 v3 0 0), (5, .pt 3 v15 0 0), (6, int a.1)], hk [(1, ⟨43, 5, true, true, v2, [[int 0, int 0, .sc (.slice none 0 0), .sc (.slice none 0 0), .sc (.slice none 0 0)]]⟩), (2, ⟨28, 2, true, true, v3, [[str a.2.1, boo a.2.2.1]]⟩), (3, ⟨43, 5, true, true, v15, [[int x6, int x9, lst 1 fI x13, .sl 4 k 0 a.2.2.2.length, .sc (.slice none 0 0)]]⟩), (4, ⟨22, 1, true, true, k, a.2.2.2.map (fL 1 fI)⟩)]⟩) (fun n (a : Int × (List UInt8) × Bool × (List (List Int))) => d_ref04_Read_L0 x6 n a.1 a.2.1 a.2.2.1 a.2.2.2) ((0 : Int), (x14.1 : List UInt8), (x14.2 : Bool), (([] : List (List Int)) : List (List Int))) v17 h1 (fun _ => rfl)
      (leH_kn ⟨⟨_, rfl, (.refl _)⟩, ⟨_, rfl, (.refl _)⟩, ⟨_, rfl, (.refl _)⟩, ⟨_, rfl, (.refl _)⟩, ⟨_, rfl, (.refl _)⟩, trivial⟩ ⟨⟨_, rfl, (.refl _)⟩, ⟨_, rfl, (.refl _)⟩, ⟨_, rfl, (.refl _)⟩, ⟨_, rfl, (.refl _)⟩, trivial⟩) ?_
    rintro n ⟨y0_1, y0_2, y0_3, y0_5⟩ w0_4 hm h1 Q3 ln3 lx3 lr3
    replace h1 : d_ref04_Read_L0 x6 (n + 1) y0_1 y0_2 y0_3 y0_5 = some _ := h1
    rw [d_ref04_Read_L0] at h1
    refine c_show ⟨kn [(2, .pt 1 v2 0 0), (3, int 0), (4, .pt 2 v3 0 0), (5, .pt 3 v15 0 0), (6, int y0_1)], hk [(1, ⟨43, 5, true, true, v2, [[int 0, int 0, .sc (.slice none 0 0), .sc (.slice none 0 0), .sc (.slice none 0 0)]]⟩), (2, ⟨28, 2, true, true, v3, [[str y0_2, boo y0_3]]⟩), (3, ⟨43, 5, true, true, v15, [[int x6, int x9, lst 1 fI x13, .sl 4 w0_4 0 y0_5.length, .sc (.slice none 0 0)]]⟩), (4, ⟨22, 1, true, true, w0_4, y0_5.map (fL 1 fI)⟩)]⟩ ?_
    refine c_seq ?_
    refine c_seq ?_
    refine c_reg ?_; intro K hK
    refine st rfl rfl rfl (yv_move rfl rfl) ?_
    refine st rfl rfl rfl (yv_fieldAddr rfl fo43_0 rfl (.pt rfl rfl rfl) (.pt _ _ _ _ _)) ?_
    refine st rfl rfl rfl (yv_load rfl sh3 rfl (.pt rfl rfl rfl) rfl) ?_
    obtain ⟨x18, e18, h1⟩ := bnd_e h1
    refine st rfl rfl rfl (yv_to (y := boo x18) (yv_lss rfl rfl rfl) (congrArg boo e18)) ?_
    refine rg_nil (hK _ ?_)
    refine c_if (b := x18) rfl ?_ ?_
    · intro hb; subst hb; replace h1 := ct h1
      refine c_skip ?_
      refine c_seq ?_
      refine c_block ?_; intro Q4 bn4 bx4 br4 bo4
      refine c_drawE [0, 1, 0, 4, 12, 31, 63, 127] (fun i => bif Nat.beq i 0 then ([3]) else bif Nat.beq i 1 then ([3]) else bif Nat.beq i 6 then ([3]) else []) (fun i => bif Nat.beq i 5 then ([]) else bif Nat.beq i 7 then ([]) else [3]) (fun i => bif Nat.beq i 3 then (false) else bif Nat.beq i 5 then (false) else bif Nat.beq i 7 then (false) else true) [0, 1, 2, 3, 4, 5, 6, 7] mixed (by kernel_rfl) ?_; intro K hK
      refine de_pure rfl rfl rfl rfl (fun H hH => yv_fieldAddr rfl fo43_3 rfl (.pt ((hH _ (by decide)).trans rfl) rfl rfl) (.pt _ _ _ _ _)) ?_
      refine de_pure rfl rfl rfl rfl (fun H hH => yv_load rfl sh41 rfl (.pt ((hH _ (by decide)).trans rfl) rfl rfl) rfl) ?_
      refine de_pure rfl rfl rfl rfl (fun H hH => yv_move rfl rfl) ?_
      obtain ⟨p19, h1⟩ := asrt_e h1
      obtain ⟨p20, h1⟩ := asrt_e h1
      obtain ⟨x21, e21, h1⟩ := bnd_e h1
      obtain ⟨x22, e22, h1⟩ := bnd_e h1
      refine de_eff rfl rfl rfl rfl (yl_call rfl rfl (.cons rfl (.cons rfl .nil)) cal18 (PC.mono (listR_c (most := 5) (s := ((y0_2, y0_3) : RS)) (id := 2) (ver := v3) rfl p19 p20 rfl) (R' := fun y H' => y = ints x21 ∧ H' = upd _ 2 (some (rdr 28 v3 x22))) (fun y H' h => ⟨h.1.trans (congrArg ints e21), h.2.trans (rdr_cong e22)⟩))) (by rintro _ _ ⟨rfl, rfl⟩; exact ⟨rfl, trivial⟩) ?_; rintro _ _ ⟨rfl, rfl⟩
      refine de_pure rfl rfl rfl rfl (fun H hH => yv_to (y := lst 1 (fL 1 fI) ([x21] : List (List Int))) (yv_buildSlice (ps := [(0, _)]) (rows := [[lst 1 fI x21]]) rfl Try.underlying41 bz22 (.cons rfl .nil) (by kernel_rfl) rfl rfl rfl) rfl) ?_
      obtain ⟨x23, e23, h1⟩ := bnd_e h1
      obtain ⟨p24, h1⟩ := asrt_e h1
      refine de_eff rfl rfl rfl rfl (yl_appT (g := (fL 1 fI)) (l := y0_5) (m := ([x21] : List (List Int))) .any rfl Try.underlying41 bz22 by22 rfl rfl rfl rfl rfl rfl rfl rfl rfl rfl (Eq.symm rfl) (.refl _) (fun _ => rfl) e23 p24) (by rintro _ _ ⟨v25, -, rfl, rfl⟩; exact trivial) ?_; rintro _ _ ⟨v25, -, rfl, rfl⟩
      refine de_pure rfl rfl rfl rfl (fun H hH => yv_fieldAddr rfl fo43_3 rfl (.pt ((hH _ (by decide)).trans rfl) rfl rfl) (.pt _ _ _ _ _)) ?_
      refine de_eff0 rfl rfl rfl rfl (Yield.weak (yl_ob (ob' := (⟨43, 5, true, true, v15, [[int x6, int x9, lst 1 fI x13, .sl 4 v25 0 x23.length, .sc (.slice none 0 0)]]⟩ : AObj)) (yl_store rfl sh41 rfl rfl rfl rfl rfl rfl rfl rfl rfl) rfl) (fun _ h => h) (fun _ _ => trivial)) (by rintro _ _ ⟨rfl, rfl⟩; exact trivial) ?_; rintro _ _ ⟨rfl, rfl⟩
      refine de_nil (hK _ ?_)
      refine c_nil (bn4 _ ?_)
      refine c_reg ?_; intro K hK
      refine st rfl rfl rfl (yv_move rfl rfl) ?_
      obtain ⟨x26, e26, h1⟩ := bnd_e h1
      refine st rfl rfl rfl (yv_add rfl rfl rfl e26) ?_
      refine st rfl rfl rfl (yv_assign rfl rfl) ?_
      refine rg_nil (hK _ ?_)
      refine c_nil (ln3 _ ⟨(x26, x22.1, x22.2, x23), v25, h1, leH_kn ⟨⟨_, rfl, (.refl _)⟩, ⟨_, rfl, (.refl _)⟩, ⟨_, rfl, (.refl _)⟩, ⟨_, rfl, (.refl _)⟩, ⟨_, rfl, (.refl _)⟩, trivial⟩ ⟨⟨_, rfl, (.refl _)⟩, ⟨_, rfl, (.refl _)⟩, ⟨_, rfl, (.refl _)⟩, ⟨_, rfl, (.refl _)⟩, trivial⟩⟩)
    · intro hb; subst hb; replace h1 := cf h1
      refine c_exit (lx3 _ _ (bx2 _ ?_))
      obtain rfl := nxt_e h1
      refine c_nil (jn1 _ ⟨(y0_2, y0_3, y0_5), w0_4, rfl, leH_kn ⟨⟨_, rfl, (.refl _)⟩, ⟨_, rfl, (.refl _)⟩, ⟨_, rfl, (.refl _)⟩, ⟨_, rfl, (.refl _)⟩, trivial⟩ ⟨⟨_, rfl, (.refl _)⟩, ⟨_, rfl, (.refl _)⟩, ⟨_, rfl, (.refl _)⟩, ⟨_, rfl, (.refl _)⟩, trivial⟩⟩)
  · rintro ⟨y1_1, y1_2, y1_4⟩ w1_3 rfl
    replace h0 := p2_e h0
    replace h0 := p2_e h0
    refine c_show ⟨kn [(2, .pt 1 v2 0 0), (3, int 0), (4, .pt 2 v3 0 0), (5, .pt 3 v15 0 0)], hk [(1, ⟨43, 5, true, true, v2, [[int 0, int 0, .sc (.slice none 0 0), .sc (.slice none 0 0), .sc (.slice none 0 0)]]⟩), (2, ⟨28, 2, true, true, v3, [[str y1_1, boo y1_2]]⟩), (3, ⟨43, 5, true, true, v15, [[int x6, int x9, lst 1 fI x13, .sl 4 w1_3 0 y1_4.length, .sc (.slice none 0 0)]]⟩), (4, ⟨22, 1, true, true, w1_3, y1_4.map (fL 1 fI)⟩)]⟩ ?_
    refine c_seq ?_
    refine c_seq ?_
    refine c_reg ?_; intro K hK
    refine st rfl rfl rfl (yv_assign rfl rfl) ?_
    refine rg_nil (hK _ ?_)
    obtain ⟨j27, h1, h0⟩ := bind_e h0
    refine c_joinL (fun (a : (List UInt8) × Bool × (List (List Int))) (k : Nat) => ⟨kn [(2, .pt 1 v2 0 0), (3, int 0), (4, .pt 2 v3 0 0), (5, .pt 3 v15 0 0)], hk [(1, ⟨43, 5, true, true, v2, [[int 0, int 0, .sc (.slice none 0 0), .sc (.slice none 0 0), .sc (.slice none 0 0)]]⟩), (2, ⟨28, 2, true, true, v3, [[str a.1, boo a.2.1]]⟩), (3, ⟨43, 5, true, true, v15, [[int x6, int x9, lst 1 fI x13, .sl 4 w1_3 0 y1_4.length, .sl 5 k 0 a.2.2.length]]⟩), (4, ⟨22, 1, true, true, w1_3, y1_4.map (fL 1 fI)⟩), (5, ⟨22, 1, true, true, k, a.2.2.map (fL 1 fI)⟩)]⟩) (fun a => a = j27) ?_ ?_
    · intro Q1 jn1 jx1 jr1
      refine c_block ?_; intro Q2 bn2 bx2 br2 bo2
      refine c_nilcell 3 0 4 5 22 1 (rows := fun v28 => [[int x6, int x9, lst 1 fI x13, .sl 4 w1_3 0 y1_4.length, .sl 5 v28 0 0]]) rfl rfl rfl rfl (fun _ => rfl) ?_; intro v28
      refine c_loopD (fun (a : Int × (List UInt8) × Bool × (List (List Int))) (k : Nat) => ⟨kn [(2, .pt 1 v2 0 0), (3, int 0), (4, .pt 2 v3 0 0), (5, .pt 3 v15 0 0), (7, int a.1)], hk [(1, ⟨43, 5, true, true, v2, [[int 0, int 0, .sc (.slice none 0 0), .sc (.slice none 0 0), .sc (.slice none 0 0)]]⟩), (2, ⟨28, 2, true, true, v3, [[str a.2.1, boo a.2.2.1]]⟩), (3, ⟨43, 5, true, true, v15, [[int x6, int x9, lst 1 fI x13, .sl 4 w1_3 0 y1_4.length, .sl 5 k 0 a.2.2.2.length]]⟩), (4, ⟨22, 1, true, true, w1_3, y1_4.map (fL 1 fI)⟩), (5, ⟨22, 1, true, true, k, a.2.2.2.map (fL 1 fI)⟩)]⟩) (fun n (a : Int × (List UInt8) × Bool × (List (List Int))) => d_ref04_Read_L1 x6 n a.1 a.2.1 a.2.2.1 a.2.2.2) ((0 : Int), (y1_1 : List UInt8), (y1_2 : Bool), (([] : List (List Int)) : List (List Int))) v28 h1 (fun _ => rfl)
        (leH_kn ⟨⟨_, rfl, (.refl _)⟩, ⟨_, rfl, (.refl _)⟩, ⟨_, rfl, (.refl _)⟩, ⟨_, rfl, (.refl _)⟩, ⟨_, rfl, (.refl _)⟩, trivial⟩ ⟨⟨_, rfl, (.refl _)⟩, ⟨_, rfl, (.refl _)⟩, ⟨_, rfl, (.refl _)⟩, ⟨_, rfl, (.refl _)⟩, ⟨_, rfl, (.refl _)⟩, trivial⟩) ?_
      rintro n ⟨y2_1, y2_2, y2_3, y2_5⟩ w2_4 hm h1 Q3 ln3 lx3 lr3
      replace h1 : d_ref04_Read_L1 x6 (n + 1) y2_1 y2_2 y2_3 y2_5 = some _ := h1
      rw [d_ref04_Read_L1] at h1
      refine c_show ⟨kn [(2, .pt 1 v2 0 0), (3, int 0), (4, .pt 2 v3 0 0), (5, .pt 3 v15 0 0), (7, int y2_1)], hk [(1, ⟨43, 5, true, true, v2, [[int 0, int 0, .sc (.slice none 0 0), .sc (.slice none 0 0), .sc (.slice none 0 0)]]⟩), (2, ⟨28, 2, true, true, v3, [[str y2_2, boo y2_3]]⟩), (3, ⟨43, 5, true, true, v15, [[int x6, int x9, lst 1 fI x13, .sl 4 w1_3 0 y1_4.length, .sl 5 w2_4 0 y2_5.length]]⟩), (4, ⟨22, 1, true, true, w1_3, y1_4.map (fL 1 fI)⟩), (5, ⟨22, 1, true, true, w2_4, y2_5.map (fL 1 fI)⟩)]⟩ ?_
      refine c_seq ?_
      refine c_seq ?_
      refine c_reg ?_; intro K hK
      refine st rfl rfl rfl (yv_move rfl rfl) ?_
      refine st rfl rfl rfl (yv_fieldAddr rfl fo43_0 rfl (.pt rfl rfl rfl) (.pt _ _ _ _ _)) ?_
      refine st rfl rfl rfl (yv_load rfl sh3 rfl (.pt rfl rfl rfl) rfl) ?_
      obtain ⟨x29, e29, h1⟩ := bnd_e h1
      refine st rfl rfl rfl (yv_to (y := boo x29) (yv_lss rfl rfl rfl) (congrArg boo e29)) ?_
      refine rg_nil (hK _ ?_)
      refine c_if (b := x29) rfl ?_ ?_
      · intro hb; subst hb; replace h1 := ct h1
        refine c_skip ?_
        refine c_seq ?_
        refine c_block ?_; intro Q4 bn4 bx4 br4 bo4
        refine c_drawE [0, 1, 0, 4, 12, 31, 63, 127] (fun i => bif Nat.beq i 0 then ([3]) else bif Nat.beq i 1 then ([3]) else bif Nat.beq i 6 then ([3]) else []) (fun i => bif Nat.beq i 5 then ([]) else bif Nat.beq i 7 then ([]) else [3]) (fun i => bif Nat.beq i 3 then (false) else bif Nat.beq i 5 then (false) else bif Nat.beq i 7 then (false) else true) [0, 1, 2, 3, 4, 5, 6, 7] mixed (by kernel_rfl) ?_; intro K hK
        refine de_pure rfl rfl rfl rfl (fun H hH => yv_fieldAddr rfl fo43_4 rfl (.pt ((hH _ (by decide)).trans rfl) rfl rfl) (.pt _ _ _ _ _)) ?_
        refine de_pure rfl rfl rfl rfl (fun H hH => yv_load rfl sh41 rfl (.pt ((hH _ (by decide)).trans rfl) rfl rfl) rfl) ?_
        refine de_pure rfl rfl rfl rfl (fun H hH => yv_move rfl rfl) ?_
        obtain ⟨p30, h1⟩ := asrt_e h1
        obtain ⟨p31, h1⟩ := asrt_e h1
        obtain ⟨x32, e32, h1⟩ := bnd_e h1
        obtain ⟨x33, e33, h1⟩ := bnd_e h1
        refine de_eff rfl rfl rfl rfl (yl_call rfl rfl (.cons rfl (.cons rfl .nil)) cal18 (PC.mono (listR_c (most := 5) (s := ((y2_2, y2_3) : RS)) (id := 2) (ver := v3) rfl p30 p31 rfl) (R' := fun y H' => y = ints x32 ∧ H' = upd _ 2 (some (rdr 28 v3 x33))) (fun y H' h => ⟨h.1.trans (congrArg ints e32), h.2.trans (rdr_cong e33)⟩))) (by rintro _ _ ⟨rfl, rfl⟩; exact ⟨rfl, trivial⟩) ?_; rintro _ _ ⟨rfl, rfl⟩
        refine de_pure rfl rfl rfl rfl (fun H hH => yv_to (y := lst 1 (fL 1 fI) ([x32] : List (List Int))) (yv_buildSlice (ps := [(0, _)]) (rows := [[lst 1 fI x32]]) rfl Try.underlying41 bz22 (.cons rfl .nil) (by kernel_rfl) rfl rfl rfl) rfl) ?_
        obtain ⟨x34, e34, h1⟩ := bnd_e h1
        obtain ⟨p35, h1⟩ := asrt_e h1
        refine de_eff rfl rfl rfl rfl (yl_appT (g := (fL 1 fI)) (l := y2_5) (m := ([x32] : List (List Int))) .any rfl Try.underlying41 bz22 by22 rfl rfl rfl rfl rfl rfl rfl rfl rfl rfl (Eq.symm rfl) (.refl _) (fun _ => rfl) e34 p35) (by rintro _ _ ⟨v36, -, rfl, rfl⟩; exact trivial) ?_; rintro _ _ ⟨v36, -, rfl, rfl⟩
        refine de_pure rfl rfl rfl rfl (fun H hH => yv_fieldAddr rfl fo43_4 rfl (.pt ((hH _ (by decide)).trans rfl) rfl rfl) (.pt _ _ _ _ _)) ?_
        refine de_eff0 rfl rfl rfl rfl (Yield.weak (yl_ob (ob' := (⟨43, 5, true, true, v15, [[int x6, int x9, lst 1 fI x13, .sl 4 w1_3 0 y1_4.length, .sl 5 v36 0 x34.length]]⟩ : AObj)) (yl_store rfl sh41 rfl rfl rfl rfl rfl rfl rfl rfl rfl) rfl) (fun _ h => h) (fun _ _ => trivial)) (by rintro _ _ ⟨rfl, rfl⟩; exact trivial) ?_; rintro _ _ ⟨rfl, rfl⟩
        refine de_nil (hK _ ?_)
        refine c_nil (bn4 _ ?_)
        refine c_reg ?_; intro K hK
        refine st rfl rfl rfl (yv_move rfl rfl) ?_
        obtain ⟨x37, e37, h1⟩ := bnd_e h1
        refine st rfl rfl rfl (yv_add rfl rfl rfl e37) ?_
        refine st rfl rfl rfl (yv_assign rfl rfl) ?_
        refine rg_nil (hK _ ?_)
        refine c_nil (ln3 _ ⟨(x37, x33.1, x33.2, x34), v36, h1, leH_kn ⟨⟨_, rfl, (.refl _)⟩, ⟨_, rfl, (.refl _)⟩, ⟨_, rfl, (.refl _)⟩, ⟨_, rfl, (.refl _)⟩, ⟨_, rfl, (.refl _)⟩, trivial⟩ ⟨⟨_, rfl, (.refl _)⟩, ⟨_, rfl, (.refl _)⟩, ⟨_, rfl, (.refl _)⟩, ⟨_, rfl, (.refl _)⟩, ⟨_, rfl, (.refl _)⟩, trivial⟩⟩)
      · intro hb; subst hb; replace h1 := cf h1
        refine c_exit (lx3 _ _ (bx2 _ ?_))
        obtain rfl := nxt_e h1
        refine c_nil (jn1 _ ⟨(y2_2, y2_3, y2_5), w2_4, rfl, leH_kn ⟨⟨_, rfl, (.refl _)⟩, ⟨_, rfl, (.refl _)⟩, ⟨_, rfl, (.refl _)⟩, ⟨_, rfl, (.refl _)⟩, trivial⟩ ⟨⟨_, rfl, (.refl _)⟩, ⟨_, rfl, (.refl _)⟩, ⟨_, rfl, (.refl _)⟩, ⟨_, rfl, (.refl _)⟩, ⟨_, rfl, (.refl _)⟩, trivial⟩⟩)
    · rintro ⟨y3_1, y3_2, y3_4⟩ w3_3 rfl
      replace h0 := p2_e h0
      replace h0 := p2_e h0
      refine c_show ⟨kn [(2, .pt 1 v2 0 0), (3, int 0), (4, .pt 2 v3 0 0), (5, .pt 3 v15 0 0)], hk [(1, ⟨43, 5, true, true, v2, [[int 0, int 0, .sc (.slice none 0 0), .sc (.slice none 0 0), .sc (.slice none 0 0)]]⟩), (2, ⟨28, 2, true, true, v3, [[str y3_1, boo y3_2]]⟩), (3, ⟨43, 5, true, true, v15, [[int x6, int x9, lst 1 fI x13, .sl 4 w1_3 0 y1_4.length, .sl 5 w3_3 0 y3_4.length]]⟩), (4, ⟨22, 1, true, true, w1_3, y1_4.map (fL 1 fI)⟩), (5, ⟨22, 1, true, true, w3_3, y3_4.map (fL 1 fI)⟩)]⟩ ?_
      refine c_seq ?_
      refine c_seq ?_
      obtain ⟨j38, h1, h0⟩ := bind_e h0
      refine c_regL (fun (a : Bool) (k : Unit) => ⟨kn [(2, .pt 1 v2 0 0), (3, int 0), (5, .pt 3 v15 0 0), (51, boo a)], hk [(1, ⟨43, 5, true, true, v2, [[int 0, int 0, .sc (.slice none 0 0), .sc (.slice none 0 0), .sc (.slice none 0 0)]]⟩), (3, ⟨43, 5, true, true, v15, [[int x6, int x9, lst 1 fI x13, .sl 4 w1_3 0 y1_4.length, .sl 5 w3_3 0 y3_4.length]]⟩), (4, ⟨22, 1, true, true, w1_3, y1_4.map (fL 1 fI)⟩), (5, ⟨22, 1, true, true, w3_3, y3_4.map (fL 1 fI)⟩)]⟩) (fun a => a = j38) ?_ ?_
      · intro K hK
        refine st rfl rfl rfl (yv_move rfl rfl) ?_
        obtain ⟨j39, h2, h1⟩ := bind_e h1
        refine se (Out := fun y H' => (∃ (a : Bool) (k : Unit), a = j39 ∧ y = boo a ∧ H' = hk [(1, ⟨43, 5, true, true, v2, [[int 0, int 0, .sc (.slice none 0 0), .sc (.slice none 0 0), .sc (.slice none 0 0)]]⟩), (2, ⟨28, 2, true, true, v3, [[str y3_1, boo y3_2]]⟩), (3, ⟨43, 5, true, true, v15, [[int x6, int x9, lst 1 fI x13, .sl 4 w1_3 0 y1_4.length, .sl 5 w3_3 0 y3_4.length]]⟩), (4, ⟨22, 1, true, true, w1_3, y1_4.map (fL 1 fI)⟩), (5, ⟨22, 1, true, true, w3_3, y3_4.map (fL 1 fI)⟩)])) rfl rfl rfl (yl_call rfl rfl (.cons rfl .nil) cal45 ?_) ?_
        · refine pc_of' (c := _) Try.func45 rfl rfl ?_; intro Q hret hnorm
          refine c_seq ?_
          refine c_reg ?_; intro K hK
          refine st rfl rfl rfl (yv_assign rfl rfl) ?_
          refine rg_nil (hK _ ?_)
          refine c_seq ?_
          obtain ⟨j40, h3, h2⟩ := bind_e h2
          refine c_regL (fun (a : Bool) (k : Unit) => ⟨kn [(2, boo a)], hk [(1, ⟨43, 5, true, true, v2, [[int 0, int 0, .sc (.slice none 0 0), .sc (.slice none 0 0), .sc (.slice none 0 0)]]⟩), (2, ⟨28, 2, true, true, v3, [[str y3_1, boo y3_2]]⟩), (3, ⟨43, 5, true, true, v15, [[int x6, int x9, lst 1 fI x13, .sl 4 w1_3 0 y1_4.length, .sl 5 w3_3 0 y3_4.length]]⟩), (4, ⟨22, 1, true, true, w1_3, y1_4.map (fL 1 fI)⟩), (5, ⟨22, 1, true, true, w3_3, y3_4.map (fL 1 fI)⟩)]⟩) (fun a => a = j40) ?_ ?_
          · intro K hK
            refine st rfl rfl rfl (yv_move rfl rfl) ?_
            refine st rfl rfl rfl (yv_nilCheck rfl rfl (.pt rfl rfl rfl)) ?_
            refine st rfl rfl rfl (yv_fieldAddr rfl fo28_1 rfl (.pt rfl rfl rfl) (.pt _ _ _ _ _)) ?_
            refine st rfl rfl rfl (yv_load rfl sh4 rfl (.pt rfl rfl rfl) rfl) ?_
            obtain ⟨x41, e41, h3⟩ := bnd_e h3
            refine st rfl rfl rfl (yv_not rfl rfl e41) ?_
            refine st rfl rfl rfl (yv_move rfl rfl) ?_
            refine scases 8 rfl ?_ ?_
            · intro hb; subst hb; replace h3 := ct h3
              refine st rfl rfl rfl (yv_move rfl rfl) ?_
              refine st rfl rfl rfl (yv_nilCheck rfl rfl (.pt rfl rfl rfl)) ?_
              refine st rfl rfl rfl (yv_fieldAddr rfl fo28_0 rfl (.pt rfl rfl rfl) (.pt _ _ _ _ _)) ?_
              refine st rfl rfl rfl (yv_load rfl sh9 rfl (.pt rfl rfl rfl) rfl) ?_
              obtain ⟨x42, e42, h3⟩ := bnd_e h3
              refine st rfl rfl rfl (yv_to (y := boo x42) (yv_seql rfl rfl rfl) (congrArg boo e42)) ?_
              refine st rfl rfl rfl (yv_pick rfl rfl (fun _ => rfl) (fun _ => rfl) rfl) ?_
              refine st rfl rfl rfl (yv_assign rfl rfl) ?_
              obtain rfl := nxt_e h3
              refine rg_nil (hK _ ⟨x42, (), rfl, leH_kn ⟨⟨_, rfl, (.refl _)⟩, trivial⟩ ⟨⟨_, rfl, (.refl _)⟩, ⟨_, rfl, (.refl _)⟩, ⟨_, rfl, (.refl _)⟩, ⟨_, rfl, (.refl _)⟩, ⟨_, rfl, (.refl _)⟩, trivial⟩⟩)
            · intro hb; subst hb; replace h3 := cf h3
              refine sk rfl rfl rfl ?_
              refine sk rfl rfl rfl ?_
              refine sk rfl rfl rfl ?_
              refine sk rfl rfl rfl ?_
              refine sk rfl rfl rfl ?_
              refine st rfl rfl rfl (yv_pick rfl rfl (fun _ => rfl) (fun _ => rfl) rfl) ?_
              refine st rfl rfl rfl (yv_assign rfl rfl) ?_
              obtain rfl := nxt_e h3
              refine rg_nil (hK _ ⟨false, (), rfl, leH_kn ⟨⟨_, rfl, (.refl _)⟩, trivial⟩ ⟨⟨_, rfl, (.refl _)⟩, ⟨_, rfl, (.refl _)⟩, ⟨_, rfl, (.refl _)⟩, ⟨_, rfl, (.refl _)⟩, ⟨_, rfl, (.refl _)⟩, trivial⟩⟩)
          · rintro y4_1 _ rfl
            refine c_show ⟨kn [(2, boo y4_1)], hk [(1, ⟨43, 5, true, true, v2, [[int 0, int 0, .sc (.slice none 0 0), .sc (.slice none 0 0), .sc (.slice none 0 0)]]⟩), (2, ⟨28, 2, true, true, v3, [[str y3_1, boo y3_2]]⟩), (3, ⟨43, 5, true, true, v15, [[int x6, int x9, lst 1 fI x13, .sl 4 w1_3 0 y1_4.length, .sl 5 w3_3 0 y3_4.length]]⟩), (4, ⟨22, 1, true, true, w1_3, y1_4.map (fL 1 fI)⟩), (5, ⟨22, 1, true, true, w3_3, y3_4.map (fL 1 fI)⟩)]⟩ ?_
            obtain rfl := nxt_e h2
            refine c_ret (hret _ _ (hk [(1, ⟨43, 5, true, true, v2, [[int 0, int 0, .sc (.slice none 0 0), .sc (.slice none 0 0), .sc (.slice none 0 0)]]⟩), (2, ⟨28, 2, true, true, v3, [[str y3_1, boo y3_2]]⟩), (3, ⟨43, 5, true, true, v15, [[int x6, int x9, lst 1 fI x13, .sl 4 w1_3 0 y1_4.length, .sl 5 w3_3 0 y3_4.length]]⟩), (4, ⟨22, 1, true, true, w1_3, y1_4.map (fL 1 fI)⟩), (5, ⟨22, 1, true, true, w3_3, y3_4.map (fL 1 fI)⟩)]) (.tmp rfl .nil) (HK.le ⟨rfl, rfl, rfl, rfl, rfl, trivial⟩) ?_)
            exact ⟨y4_1, (), rfl, rfl, rfl⟩
        · rintro y _ ⟨y5_1, _, rfl, hc, rfl⟩
          subst hc
          obtain ⟨x43, e43, h1⟩ := bnd_e h1
          refine st rfl rfl rfl (yv_not rfl rfl e43) ?_
          refine st rfl rfl rfl (yv_move rfl rfl) ?_
          refine scases 47 rfl ?_ ?_
          · intro hb; subst hb; replace h1 := ct h1
            refine sk rfl rfl rfl ?_
            refine sk rfl rfl rfl ?_
            refine sk rfl rfl rfl ?_
            refine st rfl rfl rfl (yv_pick rfl rfl (fun _ => rfl) (fun _ => rfl) rfl) ?_
            obtain rfl := nxt_e h1
            refine rg_nil (hK _ ⟨true, (), rfl, leH_kn ⟨⟨_, rfl, (.refl _)⟩, ⟨_, rfl, (.refl _)⟩, ⟨_, rfl, (.refl _)⟩, ⟨_, rfl, (.refl _)⟩, trivial⟩ ⟨⟨_, rfl, (.refl _)⟩, ⟨_, rfl, (.refl _)⟩, ⟨_, rfl, (.refl _)⟩, ⟨_, rfl, (.refl _)⟩, trivial⟩⟩)
          · intro hb; subst hb; replace h1 := cf h1
            refine st rfl rfl rfl (yv_load rfl sh43 rfl (.pt rfl rfl rfl) rfl) ?_
            obtain ⟨x44, e44, h1⟩ := bind_e h1
            refine st rfl rfl rfl (yv_callT (v := boo x44) rfl rfl (.cons rfl .nil) cal31 (.cons (CvL.agg (.cons (.refl _) (.cons (.refl _) (.cons (.refl _) (.cons (cv_lst rfl rfl rfl rfl rfl (Eq.symm rfl)) (.cons (cv_lst rfl rfl rfl rfl rfl (Eq.symm rfl)) .nil)))))) .nil) (d_ref04_Check_c e44) rfl) ?_
            obtain ⟨x45, e45, h1⟩ := bnd_e h1
            refine st rfl rfl rfl (yv_not rfl rfl e45) ?_
            refine st rfl rfl rfl (yv_pick rfl rfl (fun _ => rfl) (fun _ => rfl) rfl) ?_
            obtain rfl := nxt_e h1
            refine rg_nil (hK _ ⟨x45, (), rfl, leH_kn ⟨⟨_, rfl, (.refl _)⟩, ⟨_, rfl, (.refl _)⟩, ⟨_, rfl, (.refl _)⟩, ⟨_, rfl, (.refl _)⟩, trivial⟩ ⟨⟨_, rfl, (.refl _)⟩, ⟨_, rfl, (.refl _)⟩, ⟨_, rfl, (.refl _)⟩, ⟨_, rfl, (.refl _)⟩, trivial⟩⟩)
      · rintro y6_1 _ rfl
        refine c_show ⟨kn [(2, .pt 1 v2 0 0), (3, int 0), (5, .pt 3 v15 0 0), (51, boo y6_1)], hk [(1, ⟨43, 5, true, true, v2, [[int 0, int 0, .sc (.slice none 0 0), .sc (.slice none 0 0), .sc (.slice none 0 0)]]⟩), (3, ⟨43, 5, true, true, v15, [[int x6, int x9, lst 1 fI x13, .sl 4 w1_3 0 y1_4.length, .sl 5 w3_3 0 y3_4.length]]⟩), (4, ⟨22, 1, true, true, w1_3, y1_4.map (fL 1 fI)⟩), (5, ⟨22, 1, true, true, w3_3, y3_4.map (fL 1 fI)⟩)]⟩ ?_
        refine c_if (b := y6_1) rfl ?_ ?_
        · intro hb; subst hb; replace h0 := ct h0
          refine c_seq ?_
          refine c_reg ?_; intro K hK
          refine st rfl rfl rfl (yv_build (cs := [int 0, int 0, .sc (.slice none 0 0), .sc (.slice none 0 0), .sc (.slice none 0 0)]) (ps := []) rfl pl43 z43 rfl .nil (by kernel_rfl)) ?_
          refine sstore rfl rfl (yl_ob (ob' := (⟨43, 5, true, true, v2, [[int 0, int 0, .sc (.slice none 0 0), .sc (.slice none 0 0), .sc (.slice none 0 0)]]⟩ : AObj)) (yl_store rfl sh43 rfl rfl rfl rfl rfl rfl rfl rfl rfl) rfl) ?_
          refine st rfl rfl rfl (yv_assign rfl rfl) ?_
          refine rg_nil (hK _ ?_)
          obtain rfl := nxt_e h0
          refine c_ret (hret _ _ _ (.cell rfl (.pt rfl rfl rfl) sh43 rfl (.tmp rfl .nil)) (fun _ _ h => h) ?_)
          exact CvL.tup (.cons (CvL.agg (.cons (.refl _) (.cons (.refl _) (.cons (.nil _) (.cons (.nil _) (.cons (.nil _) .nil)))))) (.cons (.refl _) .nil))
        · intro hb; subst hb; replace h0 := cf h0
          refine c_skip ?_
          refine c_seq ?_
          refine c_reg ?_; intro K hK
          refine st rfl rfl rfl (yv_load rfl sh43 rfl (.pt rfl rfl rfl) rfl) ?_
          refine sstore rfl rfl (yl_ob (ob' := (⟨43, 5, true, true, v2, [[int x6, int x9, lst 1 fI x13, .sl 4 w1_3 0 y1_4.length, .sl 5 w3_3 0 y3_4.length]]⟩ : AObj)) (yl_store rfl sh43 rfl rfl rfl rfl rfl rfl rfl rfl rfl) rfl) ?_
          refine st rfl rfl rfl (yv_assign rfl rfl) ?_
          refine rg_nil (hK _ ?_)
          obtain rfl := nxt_e h0
          refine c_ret (hret _ _ _ (.cell rfl (.pt rfl rfl rfl) sh43 rfl (.tmp rfl .nil)) (fun _ _ h => h) ?_)
          exact CvL.tup (.cons (CvL.agg (.cons (.refl _) (.cons (.refl _) (.cons (.refl _) (.cons (cv_lst rfl rfl rfl rfl rfl (Eq.symm rfl)) (.cons (cv_lst rfl rfl rfl rfl rfl (Eq.symm rfl)) .nil)))))) (.cons (.refl _) .nil))
end Go.Pv
