import Derived.Test.YtnbiheccdpbfiaaM4
set_option linter.unusedVariables false
namespace Go.Pv
open Go.Proofs
set_option maxRecDepth 10000
def d_master_Start_L1 (a1 : GMaster) : Nat → Int → (List Int) → Option ((List Int))
  | 0, _, _ => none
  | n + 1, y1_1, y1_2 =>
    bnd (decide (y1_1 < ((Int.toNat (a1.Weights.length : Int)) : Int))) fun (x33 : Bool) =>
    cond x33 ((ix y1_2 y1_1).bind fun (x34 : Int) =>
    bnd (y1_2.set (Int.toNat y1_1) ((-1) : Int)) fun (x35 : List Int) =>
    bnd (w64 (y1_1 + 1)) fun (x36 : Int) =>
    d_master_Start_L1 a1 n (x36 : Int) (x35 : List Int)) (some (y1_2 : List Int))
def d_master_Start_L0 (a1 : GMaster) : Nat → Int → (List GEnt) → Option ((List GEnt))
  | 0, _, _ => none
  | n + 1, y0_1, y0_3 =>
    bnd (decide (y0_1 < a1.Entities)) fun (x13 : Bool) =>
    cond x13 ((show Option ((List GEnt)) from
    bnd (w64 ((a1.Weights.length : Int) * 2)) fun (x15 : Int) =>
    asrt ((0 : Int) ≤ x15 ∧ (x15 : Int) ≤ 1048576) <|
    bnd (List.replicate (Int.toNat x15) ((⟨[], (⟨0, 0, 0⟩ : A3_Int)⟩ : GPool) : GPool)) fun (x17 : List GPool) =>
    asrt ((0 : Int) ≤ 17 ∧ (17 : Int) ≤ 1048576) <|
    bnd (List.replicate (Int.toNat 17) (0 : Int)) fun (x20 : List Int) =>
    asrt ((0 : Int) ≤ (a1.Weights.length : Int) ∧ ((a1.Weights.length : Int) : Int) ≤ 1048576) <|
    bnd (List.replicate (Int.toNat (a1.Weights.length : Int)) ((⟨0, 0, 0, 0, 0, 0, 0, 0, 0, 0, 0⟩ : GRoll) : GRoll)) fun (x23 : List GRoll) =>
    asrt ((0 : Int) ≤ (a1.Weights.length : Int) ∧ ((a1.Weights.length : Int) : Int) ≤ 1048576) <|
    bnd (List.replicate (Int.toNat (a1.Weights.length : Int)) (0 : Int)) fun (x26 : List Int) =>
    asrt ((0 : Int) ≤ (a1.Weights.length : Int) ∧ ((a1.Weights.length : Int) : Int) ≤ 1048576) <|
    bnd (List.replicate (Int.toNat (a1.Weights.length : Int)) (0 : Int)) fun (x29 : List Int) =>
    (show Option ((List Int)) from
    d_master_Start_L1 a1 n (0 : Int) (x26 : List Int)).bind <| fun (y2_1 : List Int) =>
    bnd (y0_3 ++ [(⟨1, false, x17, x20, x23, y2_1, x29, []⟩ : GEnt)]) fun (x37 : List GEnt) =>
    asrt (x37.length ≤ 68719476736) <|
    some (x37 : List GEnt)).bind <| fun (y3_2 : List GEnt) =>
    bnd (w64 (y0_1 + 1)) fun (x40 : Int) =>
    d_master_Start_L0 a1 n (x40 : Int) (y3_2 : List GEnt)) (some (y0_3 : List GEnt))
def d_master_Start (n : Nat) (a1 : GMaster) : Option (GState × Int) :=
(d_master_Check n a1).bind fun (x4 : Bool) =>
bnd (!x4) fun (x5 : Bool) =>
cond x5 (some (((⟨(⟨0, 0, [], [], []⟩ : GMaster), [], [], [], [], 0⟩ : GState) : GState), (1 : Int))) (asrt (a1.Weights.length ≤ 68719476736) <|
(d_master_own n a1.Methods).bind fun (x8 : (List (List Int))) =>
(d_master_own n a1.Costs).bind fun (x9 : (List (List Int))) =>
(show Option ((List GEnt)) from
d_master_Start_L0 a1 n (0 : Int) (([] : List GEnt) : List GEnt)).bind <| fun (y4_2 : List GEnt) =>
some (((⟨(⟨a1.Entities, a1.Periods, a1.Weights, x8, x9⟩ : GMaster), y4_2, [], [], [], 0⟩ : GState) : GState), (0 : Int)))
theorem d_master_Start_c {n : Nat} {a1 : GMaster} {r : GState × Int} (h0 : d_master_Start n a1 = some r) : PP Try.prog 28 [.agg (GMaster.av a1)] (fun y => y = .tup [.agg (GState.av r.1), int r.2]) := by
  unfold d_master_Start at h0
  refine pp_of_pc (R0 := fun y H => Cv (frzH H) y (.tup [.agg (GState.av r.1), int r.2])) ?_ (fun y H hc => ⟨_, rfl, .tup (pvl2 ((fun (a : GState) => PV.agg (GState.pvc a)) (r.1)) (pvI (r.2))), hc⟩)
  refine pc_of' (c := _) Try.func28 rfl rfl ?_; intro Q hret hnorm
  refine c_seq ?_
  refine c_reg ?_; intro K hK
  refine se rfl rfl rfl (yl_box 1 .any rfl rfl rfl) ?_; rintro _ _ ⟨v2, -, rfl, rfl⟩
  refine se rfl rfl rfl (yl_alloc 2 .any rfl z53 rfl) ?_; rintro _ _ ⟨v3, -, rfl, rfl⟩
  refine st rfl rfl rfl (yv_assign rfl rfl) ?_
  refine rg_nil (hK _ ?_)
  refine c_seq ?_
  refine c_seq ?_
  refine c_reg ?_; intro K hK
  refine st rfl rfl rfl (yv_load rfl sh43 rfl (.pt rfl rfl rfl) rfl) ?_
  obtain ⟨x4, e4, h0⟩ := bind_e h0
  refine st rfl rfl rfl (yv_callP rfl rfl (.cons rfl .nil) cal30 (CvL.refl _) (d_master_Check_c e4)) ?_
  obtain ⟨x5, e5, h0⟩ := bnd_e h0
  refine st rfl rfl rfl (yv_not rfl rfl e5) ?_
  refine rg_nil (hK _ ?_)
  refine c_if (b := x5) rfl ?_ ?_
  · intro hb; subst hb; replace h0 := ct h0
    refine c_seq ?_
    refine c_reg ?_; intro K hK
    refine st rfl rfl rfl (yv_build (cs := [int 0, int 0, .sc (.slice none 0 0), .sc (.slice none 0 0), .sc (.slice none 0 0), .sc (.slice none 0 0), .sc (.slice none 0 0), .sc (.slice none 0 0), .sc (.slice none 0 0), int 0]) (ps := []) rfl pl53 z53 rfl .nil (by kernel_rfl)) ?_
    refine sstore rfl rfl (yl_ob (ob' := (⟨53, 10, true, true, v3, [[int 0, int 0, .sc (.slice none 0 0), .sc (.slice none 0 0), .sc (.slice none 0 0), .sc (.slice none 0 0), .sc (.slice none 0 0), .sc (.slice none 0 0), .sc (.slice none 0 0), int 0]]⟩ : AObj)) (yl_store rfl sh53 rfl rfl rfl rfl rfl rfl rfl rfl rfl) rfl) ?_
    refine st rfl rfl rfl (yv_assign rfl rfl) ?_
    refine rg_nil (hK _ ?_)
    obtain rfl := nxt_e h0
    refine c_ret (hret _ _ _ (.cell rfl (.pt rfl rfl rfl) sh53 rfl (.tmp rfl .nil)) (fun _ _ h => h) ?_)
    exact CvL.tup (.cons (CvL.agg (.cons (.refl _) (.cons (.refl _) (.cons (.nil _) (.cons (.nil _) (.cons (.nil _) (.cons (.nil _) (.cons (.nil _) (.cons (.nil _) (.cons (.nil _) (.cons (.refl _) .nil))))))))))) (.cons (.refl _) .nil))
  · intro hb; subst hb; replace h0 := cf h0
    refine c_skip ?_
    refine c_seq ?_
    refine c_drawE [0, 1, 3, 0, 8, 31, 0, 64, 255, 223, 1023, 2047, 4095, 8191, 16383] (fun i => bif Nat.beq i 0 then ([1]) else bif Nat.beq i 1 then ([1]) else bif Nat.beq i 3 then ([1]) else bif Nat.beq i 4 then ([1]) else bif Nat.beq i 6 then ([1]) else bif Nat.beq i 7 then ([1]) else bif Nat.beq i 9 then ([1]) else bif Nat.beq i 11 then ([1]) else bif Nat.beq i 13 then ([1]) else []) (fun i => bif Nat.beq i 10 then ([]) else bif Nat.beq i 12 then ([]) else bif Nat.beq i 14 then ([]) else [1]) (fun i => bif Nat.beq i 2 then (false) else bif Nat.beq i 10 then (false) else bif Nat.beq i 12 then (false) else bif Nat.beq i 14 then (false) else true) [0, 1, 3, 4, 6, 7, 2, 5, 8, 9, 10, 11, 12, 13, 14] mixed (by kernel_rfl) ?_; intro K hK
    refine de_pure rfl rfl rfl rfl (fun H hH => yv_fieldAddr rfl fo43_2 rfl (.pt ((hH _ (by decide)).trans rfl) rfl rfl) (.pt _ _ _ _ _)) ?_
    refine de_pure rfl rfl rfl rfl (fun H hH => yv_load rfl sh22 rfl (.pt ((hH _ (by decide)).trans rfl) rfl rfl) rfl) ?_
    refine de_pure rfl rfl rfl rfl (fun H hH => yv_fieldAddr rfl fo43_3 rfl (.pt ((hH _ (by decide)).trans rfl) rfl rfl) (.pt _ _ _ _ _)) ?_
    refine de_pure rfl rfl rfl rfl (fun H hH => yv_load rfl sh41 rfl (.pt ((hH _ (by decide)).trans rfl) rfl rfl) rfl) ?_
    refine de_pure rfl rfl rfl rfl (fun H hH => yv_fieldAddr rfl fo43_4 rfl (.pt ((hH _ (by decide)).trans rfl) rfl rfl) (.pt _ _ _ _ _)) ?_
    refine de_pure rfl rfl rfl rfl (fun H hH => yv_load rfl sh41 rfl (.pt ((hH _ (by decide)).trans rfl) rfl rfl) rfl) ?_
    obtain ⟨p6, h0⟩ := asrt_e h0
    refine de_eff rfl rfl rfl rfl (yl_call rfl rfl (.cons rfl .nil) cal46 (pc_cv (clone46_c (id := 3) (l := a1.Weights) rfl p6) (.cons (.refl _) .nil))) (by rintro _ _ ⟨v7, rfl, rfl⟩; exact ⟨rfl, trivial⟩) ?_; rintro _ _ ⟨v7, rfl, rfl⟩
    obtain ⟨x8, e8, h0⟩ := bind_e h0
    refine de_pure rfl rfl rfl rfl (fun H hH => yv_callP rfl rfl (.cons rfl .nil) cal47 (CvL.refl _) (d_master_own_c e8)) ?_
    obtain ⟨x9, e9, h0⟩ := bind_e h0
    refine de_pure rfl rfl rfl rfl (fun H hH => yv_callP rfl rfl (.cons rfl .nil) cal47 (CvL.refl _) (d_master_own_c e9)) ?_
    refine de_pure rfl rfl rfl rfl (fun H hH => yv_fieldAddr rfl fo43_2 rfl (.pt ((hH _ (by decide)).trans rfl) rfl rfl) (.pt _ _ _ _ _)) ?_
    refine de_eff0 rfl rfl rfl rfl (Yield.weak (yl_ob (ob' := (⟨43, 5, true, true, v2, [[int a1.Entities, int a1.Periods, .sl 3 v7 0 a1.Weights.length, lst 1 (fL 1 fI) a1.Methods, lst 1 (fL 1 fI) a1.Costs]]⟩ : AObj)) (yl_store rfl sh22 rfl rfl rfl rfl rfl rfl rfl rfl rfl) rfl) (fun _ h => h) (fun _ _ => trivial)) (by rintro _ _ ⟨rfl, rfl⟩; exact trivial) ?_; rintro _ _ ⟨rfl, rfl⟩
    refine de_pure rfl rfl rfl rfl (fun H hH => yv_fieldAddr rfl fo43_3 rfl (.pt ((hH _ (by decide)).trans rfl) rfl rfl) (.pt _ _ _ _ _)) ?_
    refine de_eff0 rfl rfl rfl rfl (Yield.weak (yl_ob (ob' := (⟨43, 5, true, true, v2, [[int a1.Entities, int a1.Periods, .sl 3 v7 0 a1.Weights.length, lst 1 (fL 1 fI) x8, lst 1 (fL 1 fI) a1.Costs]]⟩ : AObj)) (yl_store rfl sh41 rfl rfl rfl rfl rfl rfl rfl rfl rfl) rfl) (fun _ h => h) (fun _ _ => trivial)) (by rintro _ _ ⟨rfl, rfl⟩; exact trivial) ?_; rintro _ _ ⟨rfl, rfl⟩
    refine de_pure rfl rfl rfl rfl (fun H hH => yv_fieldAddr rfl fo43_4 rfl (.pt ((hH _ (by decide)).trans rfl) rfl rfl) (.pt _ _ _ _ _)) ?_
    refine de_eff0 rfl rfl rfl rfl (Yield.weak (yl_ob (ob' := (⟨43, 5, true, true, v2, [[int a1.Entities, int a1.Periods, .sl 3 v7 0 a1.Weights.length, lst 1 (fL 1 fI) x8, lst 1 (fL 1 fI) x9]]⟩ : AObj)) (yl_store rfl sh41 rfl rfl rfl rfl rfl rfl rfl rfl rfl) rfl) (fun _ h => h) (fun _ _ => trivial)) (by rintro _ _ ⟨rfl, rfl⟩; exact trivial) ?_; rintro _ _ ⟨rfl, rfl⟩
    refine de_nil (hK _ ?_)
    refine c_seq ?_
    refine c_reg ?_; intro K hK
    refine st rfl rfl rfl (yv_load rfl sh43 rfl (.pt rfl rfl rfl) rfl) ?_
    refine st rfl rfl rfl (yv_build (cs := [int a1.Entities, int a1.Periods, .sl 3 v7 0 a1.Weights.length, lst 1 (fL 1 fI) x8, lst 1 (fL 1 fI) x9, .sc (.slice none 0 0), .sc (.slice none 0 0), .sc (.slice none 0 0), .sc (.slice none 0 0), int 0]) (ps := [(0, _)]) rfl pl53 z53 rfl (.cons rfl .nil) (by kernel_rfl)) ?_
    refine se rfl rfl rfl (yl_alloc 4 .any rfl z53 rfl) ?_; rintro _ _ ⟨v10, -, rfl, rfl⟩
    refine sstore rfl rfl (yl_ob (ob' := (⟨53, 10, true, true, v10, [[int a1.Entities, int a1.Periods, .sl 3 v7 0 a1.Weights.length, lst 1 (fL 1 fI) x8, lst 1 (fL 1 fI) x9, .sc (.slice none 0 0), .sc (.slice none 0 0), .sc (.slice none 0 0), .sc (.slice none 0 0), int 0]]⟩ : AObj)) (yl_store rfl sh53 rfl rfl rfl rfl rfl rfl rfl rfl rfl) rfl) ?_
    refine rg_nil (hK _ ?_)
    refine c_seq ?_
    refine c_reg ?_; intro K hK
    refine st rfl rfl rfl (yv_fieldAddr rfl fo43_2 rfl (.pt rfl rfl rfl) (.pt _ _ _ _ _)) ?_
    refine st rfl rfl rfl (yv_load rfl sh22 rfl (.pt rfl rfl rfl) rfl) ?_
    refine st rfl rfl rfl (yv_len_sl rfl Try.underlying22 rfl (.sl rfl rfl)) ?_
    refine st rfl rfl rfl (yv_assign rfl rfl) ?_
    refine rg_nil (hK _ ?_)
    refine c_seq ?_
    refine c_seq ?_
    refine c_reg ?_; intro K hK
    refine st rfl rfl rfl (yv_fieldAddr rfl fo43_0 rfl (.pt rfl rfl rfl) (.pt _ _ _ _ _)) ?_
    refine st rfl rfl rfl (yv_load rfl sh3 rfl (.pt rfl rfl rfl) rfl) ?_
    refine st rfl rfl rfl (yv_move rfl rfl) ?_
    refine rg_nil (hK _ ?_)
    obtain ⟨j11, h1, h0⟩ := bind_e h0
    refine c_joinL (fun (a : (List GEnt)) (k : Nat) => ⟨kn [(2, .pt 2 v3 0 0), (3, int 0), (4, .pt 4 v10 0 0)], hk [(2, ⟨53, 10, true, true, v3, [[int 0, int 0, .sc (.slice none 0 0), .sc (.slice none 0 0), .sc (.slice none 0 0), .sc (.slice none 0 0), .sc (.slice none 0 0), .sc (.slice none 0 0), .sc (.slice none 0 0), int 0]]⟩), (3, ⟨3, 1, true, true, v7, a1.Weights.map fI⟩), (4, ⟨53, 10, true, true, v10, [[int a1.Entities, int a1.Periods, .sl 3 v7 0 a1.Weights.length, lst 1 (fL 1 fI) x8, lst 1 (fL 1 fI) x9, .sl 5 k 0 a.length, .sc (.slice none 0 0), .sc (.slice none 0 0), .sc (.slice none 0 0), int 0]]⟩), (5, ⟨66, 8, true, true, k, a.map GEnt.av⟩)]⟩) (fun a => a = j11) ?_ ?_
    · intro Q1 jn1 jx1 jr1
      refine c_block ?_; intro Q2 bn2 bx2 br2 bo2
      refine c_nilcell 4 0 5 5 66 8 (rows := fun v12 => [[int a1.Entities, int a1.Periods, .sl 3 v7 0 a1.Weights.length, lst 1 (fL 1 fI) x8, lst 1 (fL 1 fI) x9, .sl 5 v12 0 0, .sc (.slice none 0 0), .sc (.slice none 0 0), .sc (.slice none 0 0), int 0]]) rfl rfl rfl rfl (fun _ => rfl) ?_; intro v12
      refine c_loopD (fun (a : Int × (List GEnt)) (k : Nat) => ⟨kn [(2, .pt 2 v3 0 0), (3, int 0), (4, .pt 4 v10 0 0), (5, int (a1.Weights.length : Int)), (30, int a1.Entities), (31, int a.1)], hk [(2, ⟨53, 10, true, true, v3, [[int 0, int 0, .sc (.slice none 0 0), .sc (.slice none 0 0), .sc (.slice none 0 0), .sc (.slice none 0 0), .sc (.slice none 0 0), .sc (.slice none 0 0), .sc (.slice none 0 0), int 0]]⟩), (3, ⟨3, 1, true, true, v7, a1.Weights.map fI⟩), (4, ⟨53, 10, true, true, v10, [[int a1.Entities, int a1.Periods, .sl 3 v7 0 a1.Weights.length, lst 1 (fL 1 fI) x8, lst 1 (fL 1 fI) x9, .sl 5 k 0 a.2.length, .sc (.slice none 0 0), .sc (.slice none 0 0), .sc (.slice none 0 0), int 0]]⟩), (5, ⟨66, 8, true, true, k, a.2.map GEnt.av⟩)]⟩) (fun n (a : Int × (List GEnt)) => d_master_Start_L0 a1 n a.1 a.2) ((0 : Int), (([] : List GEnt) : List GEnt)) v12 h1 (fun _ => rfl)
        (leH_kn ⟨⟨_, rfl, (.refl _)⟩, ⟨_, rfl, (.refl _)⟩, ⟨_, rfl, (.refl _)⟩, ⟨_, rfl, (.refl _)⟩, ⟨_, rfl, (.refl _)⟩, ⟨_, rfl, (.refl _)⟩, trivial⟩ ⟨⟨_, rfl, (.refl _)⟩, ⟨_, rfl, (.refl _)⟩, ⟨_, rfl, (.refl _)⟩, ⟨_, rfl, (.refl _)⟩, trivial⟩) ?_
      rintro n ⟨y0_1, y0_3⟩ w0_2 hm h1 Q3 ln3 lx3 lr3
      replace h1 : d_master_Start_L0 a1 (n + 1) y0_1 y0_3 = some _ := h1
      rw [d_master_Start_L0] at h1
      refine c_show ⟨kn [(2, .pt 2 v3 0 0), (3, int 0), (4, .pt 4 v10 0 0), (5, int (a1.Weights.length : Int)), (30, int a1.Entities), (31, int y0_1)], hk [(2, ⟨53, 10, true, true, v3, [[int 0, int 0, .sc (.slice none 0 0), .sc (.slice none 0 0), .sc (.slice none 0 0), .sc (.slice none 0 0), .sc (.slice none 0 0), .sc (.slice none 0 0), .sc (.slice none 0 0), int 0]]⟩), (3, ⟨3, 1, true, true, v7, a1.Weights.map fI⟩), (4, ⟨53, 10, true, true, v10, [[int a1.Entities, int a1.Periods, .sl 3 v7 0 a1.Weights.length, lst 1 (fL 1 fI) x8, lst 1 (fL 1 fI) x9, .sl 5 w0_2 0 y0_3.length, .sc (.slice none 0 0), .sc (.slice none 0 0), .sc (.slice none 0 0), int 0]]⟩), (5, ⟨66, 8, true, true, w0_2, y0_3.map GEnt.av⟩)]⟩ ?_
      refine c_seq ?_
      refine c_reg ?_; intro K hK
      obtain ⟨x13, e13, h1⟩ := bnd_e h1
      refine st rfl rfl rfl (yv_to (y := boo x13) (yv_lss rfl rfl rfl) (congrArg boo e13)) ?_
      refine rg_nil (hK _ ?_)
      refine c_seq ?_
      refine c_if (b := x13) rfl ?_ ?_
      · intro hb; subst hb; replace h1 := ct h1
        refine c_skip ?_
        refine c_seq ?_
        obtain ⟨j14, h2, h1⟩ := bind_e h1
        refine c_joinL (fun (a : (List GEnt)) (k : Nat) => ⟨kn [(2, .pt 2 v3 0 0), (3, int 0), (4, .pt 4 v10 0 0), (5, int (a1.Weights.length : Int)), (30, int a1.Entities), (31, int y0_1)], hk [(2, ⟨53, 10, true, true, v3, [[int 0, int 0, .sc (.slice none 0 0), .sc (.slice none 0 0), .sc (.slice none 0 0), .sc (.slice none 0 0), .sc (.slice none 0 0), .sc (.slice none 0 0), .sc (.slice none 0 0), int 0]]⟩), (3, ⟨3, 1, true, true, v7, a1.Weights.map fI⟩), (4, ⟨53, 10, true, true, v10, [[int a1.Entities, int a1.Periods, .sl 3 v7 0 a1.Weights.length, lst 1 (fL 1 fI) x8, lst 1 (fL 1 fI) x9, .sl 5 k 0 a.length, .sc (.slice none 0 0), .sc (.slice none 0 0), .sc (.slice none 0 0), int 0]]⟩), (5, ⟨66, 8, true, true, k, a.map GEnt.av⟩)]⟩) (fun a => a = j14) ?_ ?_
        · intro Q4 jn4 jx4 jr4
          refine c_block ?_; intro Q5 bn5 bx5 br5 bo5
          refine c_seq ?_
          refine c_draw [0, 1, 3, 0, 0, 16, 0, 64, 0, 256, 1023, 0, 4095] (fun i k => bif Nat.beq i 12 then (Nat.beq k 6 || Nat.beq k 7 || Nat.beq k 8 || Nat.beq k 9 || Nat.beq k 10 || Nat.beq k 11) else false) (fun i => bif Nat.beq i 2 then (some 6) else bif Nat.beq i 3 then (some 7) else bif Nat.beq i 5 then (some 8) else bif Nat.beq i 7 then (some 9) else bif Nat.beq i 9 then (some 10) else bif Nat.beq i 11 then (some 11) else bif Nat.beq i 12 then (some 11) else none) mixed (by kernel_rfl) ?_; intro C K hK
          refine dg_pure rfl (fun H hH => yv_move rfl rfl) ?_
          obtain ⟨x15, e15, h2⟩ := bnd_e h2
          refine dg_pure rfl (fun H hH => yv_mul rfl rfl rfl e15) ?_
          obtain ⟨p16, h2⟩ := asrt_e h2
          obtain ⟨x17, e17, h2⟩ := bnd_e h2
          have lx17 : x17.length = (Int.toNat x15) := by rw [← e17]; exact List.length_replicate
          refine dg_eff rfl rfl (fun H hH => yl_one (yl_make 6 (g := GPool.av) (z0 := ((⟨[], (⟨0, 0, 0⟩ : A3_Int)⟩ : GPool) : GPool)) (.one _) rfl Try.underlying63 bz72 by72 rfl rfl rfl p16 (.cons (.nil _) (.cons (.sc _) (.cons (.sc _) (.cons (.sc _) .nil)))) e17)) ?_; generalize C + 2 = v18
          obtain ⟨p19, h2⟩ := asrt_e h2
          obtain ⟨x20, e20, h2⟩ := bnd_e h2
          have lx20 : x20.length = (Int.toNat 17) := by rw [← e20]; exact List.length_replicate
          refine dg_eff rfl rfl (fun H hH => yl_one (yl_make 7 (g := fI) (z0 := (0 : Int)) (.one _) rfl Try.underlying22 bz3 by3 rfl rfl rfl p19 (.cons (.sc _) .nil) e20)) ?_; generalize C + 3 = v21
          refine dg_pure rfl (fun H hH => yv_move rfl rfl) ?_
          obtain ⟨p22, h2⟩ := asrt_e h2
          obtain ⟨x23, e23, h2⟩ := bnd_e h2
          have lx23 : x23.length = (Int.toNat (a1.Weights.length : Int)) := by rw [← e23]; exact List.length_replicate
          refine dg_eff rfl rfl (fun H hH => yl_one (yl_make 8 (g := GRoll.av) (z0 := ((⟨0, 0, 0, 0, 0, 0, 0, 0, 0, 0, 0⟩ : GRoll) : GRoll)) (.one _) rfl Try.underlying64 bz68 by68 rfl rfl rfl p22 (.cons (.sc _) (.cons (.sc _) (.cons (.sc _) (.cons (.sc _) (.cons (.sc _) (.cons (.sc _) (.cons (.sc _) (.cons (.sc _) (.cons (.sc _) (.cons (.sc _) (.cons (.sc _) .nil))))))))))) e23)) ?_; generalize C + 5 = v24
          refine dg_pure rfl (fun H hH => yv_move rfl rfl) ?_
          obtain ⟨p25, h2⟩ := asrt_e h2
          obtain ⟨x26, e26, h2⟩ := bnd_e h2
          have lx26 : x26.length = (Int.toNat (a1.Weights.length : Int)) := by rw [← e26]; exact List.length_replicate
          refine dg_eff rfl rfl (fun H hH => yl_one (yl_make 9 (g := fI) (z0 := (0 : Int)) (.one _) rfl Try.underlying22 bz3 by3 rfl rfl rfl p25 (.cons (.sc _) .nil) e26)) ?_; generalize C + 7 = v27
          refine dg_pure rfl (fun H hH => yv_move rfl rfl) ?_
          obtain ⟨p28, h2⟩ := asrt_e h2
          obtain ⟨x29, e29, h2⟩ := bnd_e h2
          have lx29 : x29.length = (Int.toNat (a1.Weights.length : Int)) := by rw [← e29]; exact List.length_replicate
          refine dg_eff rfl rfl (fun H hH => yl_one (yl_make 10 (g := fI) (z0 := (0 : Int)) (.one _) rfl Try.underlying22 bz3 by3 rfl rfl rfl p28 (.cons (.sc _) .nil) e29)) ?_; generalize C + 9 = v30
          refine dg_pure rfl (fun H hH => yv_build (cs := [int 1, boo false, .sl 6 v18 0 (Int.toNat x15), .sl 7 v21 0 (Int.toNat 17), .sl 8 v24 0 (Int.toNat (a1.Weights.length : Int)), .sl 9 v27 0 (Int.toNat (a1.Weights.length : Int)), .sl 10 v30 0 (Int.toNat (a1.Weights.length : Int)), .sc (.slice none 0 0)]) (ps := [(0, _), (2, _), (3, _), (4, _), (5, _), (6, _)]) rfl pl66 z66 rfl (.cons rfl (.cons rfl (.cons rfl (.cons rfl (.cons rfl (.cons rfl .nil)))))) (by kernel_rfl)) ?_
          refine dg_eff rfl rfl (fun H hH => yl_alloc1 11 rfl z66 rfl) ?_; generalize C + 11 = v31
          refine dg_store rfl rfl rfl (fun H hH => yl_ob (ob' := (⟨66, 8, true, true, v31, [[int 1, boo false, .sl 6 v18 0 (Int.toNat x15), .sl 7 v21 0 (Int.toNat 17), .sl 8 v24 0 (Int.toNat (a1.Weights.length : Int)), .sl 9 v27 0 (Int.toNat (a1.Weights.length : Int)), .sl 10 v30 0 (Int.toNat (a1.Weights.length : Int)), .sc (.slice none 0 0)]]⟩ : AObj)) (yl_store rfl sh66 rfl rfl ((hH _ rfl).trans rfl) rfl rfl rfl rfl rfl rfl) rfl) ?_
          refine dg_nil (hK _ ?_)
          refine c_seq ?_
          refine c_seq ?_
          refine c_reg ?_; intro K hK
          refine st rfl rfl rfl (yv_fieldAddr rfl fo66_5 rfl (.pt rfl rfl rfl) (.pt _ _ _ _ _)) ?_
          refine st rfl rfl rfl (yv_load rfl sh22 rfl (.pt rfl rfl rfl) rfl) ?_
          refine st rfl rfl rfl (yv_len_sl rfl Try.underlying22 rfl (.sl rfl rfl)) ?_
          refine st rfl rfl rfl (yv_move rfl rfl) ?_
          refine rg_nil (hK _ ?_)
          obtain ⟨j32, h3, h2⟩ := bind_e h2
          refine c_joinL (fun (a : (List Int)) (k : Unit) => ⟨kn [(2, .pt 2 v3 0 0), (3, int 0), (4, .pt 4 v10 0 0), (5, int (a1.Weights.length : Int)), (6, .pt 11 v31 0 0), (30, int a1.Entities), (31, int y0_1)], hk [(2, ⟨53, 10, true, true, v3, [[int 0, int 0, .sc (.slice none 0 0), .sc (.slice none 0 0), .sc (.slice none 0 0), .sc (.slice none 0 0), .sc (.slice none 0 0), .sc (.slice none 0 0), .sc (.slice none 0 0), int 0]]⟩), (3, ⟨3, 1, true, true, v7, a1.Weights.map fI⟩), (4, ⟨53, 10, true, true, v10, [[int a1.Entities, int a1.Periods, .sl 3 v7 0 a1.Weights.length, lst 1 (fL 1 fI) x8, lst 1 (fL 1 fI) x9, .sl 5 w0_2 0 y0_3.length, .sc (.slice none 0 0), .sc (.slice none 0 0), .sc (.slice none 0 0), int 0]]⟩), (5, ⟨66, 8, true, true, w0_2, y0_3.map GEnt.av⟩), (6, ⟨72, 4, true, true, v18, x17.map GPool.av⟩), (7, ⟨3, 1, true, true, v21, x20.map fI⟩), (8, ⟨68, 11, true, true, v24, x23.map GRoll.av⟩), (9, ⟨3, 1, true, true, v27, a.map fI⟩), (10, ⟨3, 1, true, true, v30, x29.map fI⟩), (11, ⟨66, 8, true, true, v31, [[int 1, boo false, .sl 6 v18 0 (Int.toNat x15), .sl 7 v21 0 (Int.toNat 17), .sl 8 v24 0 (Int.toNat (a1.Weights.length : Int)), .sl 9 v27 0 a.length, .sl 10 v30 0 (Int.toNat (a1.Weights.length : Int)), .sc (.slice none 0 0)]]⟩)]⟩) (fun a => a = j32) ?_ ?_
          · intro Q6 jn6 jx6 jr6
            refine c_block ?_; intro Q7 bn7 bx7 br7 bo7
            refine c_loopD (fun (a : Int × (List Int)) (k : Unit) => ⟨kn [(2, .pt 2 v3 0 0), (3, int 0), (4, .pt 4 v10 0 0), (5, int (a1.Weights.length : Int)), (6, .pt 11 v31 0 0), (30, int a1.Entities), (31, int y0_1), (46, int ((Int.toNat (a1.Weights.length : Int)) : Int)), (47, int a.1)], hk [(2, ⟨53, 10, true, true, v3, [[int 0, int 0, .sc (.slice none 0 0), .sc (.slice none 0 0), .sc (.slice none 0 0), .sc (.slice none 0 0), .sc (.slice none 0 0), .sc (.slice none 0 0), .sc (.slice none 0 0), int 0]]⟩), (3, ⟨3, 1, true, true, v7, a1.Weights.map fI⟩), (4, ⟨53, 10, true, true, v10, [[int a1.Entities, int a1.Periods, .sl 3 v7 0 a1.Weights.length, lst 1 (fL 1 fI) x8, lst 1 (fL 1 fI) x9, .sl 5 w0_2 0 y0_3.length, .sc (.slice none 0 0), .sc (.slice none 0 0), .sc (.slice none 0 0), int 0]]⟩), (5, ⟨66, 8, true, true, w0_2, y0_3.map GEnt.av⟩), (6, ⟨72, 4, true, true, v18, x17.map GPool.av⟩), (7, ⟨3, 1, true, true, v21, x20.map fI⟩), (8, ⟨68, 11, true, true, v24, x23.map GRoll.av⟩), (9, ⟨3, 1, true, true, v27, a.2.map fI⟩), (10, ⟨3, 1, true, true, v30, x29.map fI⟩), (11, ⟨66, 8, true, true, v31, [[int 1, boo false, .sl 6 v18 0 (Int.toNat x15), .sl 7 v21 0 (Int.toNat 17), .sl 8 v24 0 (Int.toNat (a1.Weights.length : Int)), .sl 9 v27 0 a.2.length, .sl 10 v30 0 (Int.toNat (a1.Weights.length : Int)), .sc (.slice none 0 0)]]⟩)]⟩) (fun n (a : Int × (List Int)) => d_master_Start_L1 a1 n a.1 a.2) ((0 : Int), (x26 : List Int)) () h3 (fun _ => rfl)
              (leH_kn ⟨⟨_, rfl, (.refl _)⟩, ⟨_, rfl, (.refl _)⟩, ⟨_, rfl, (.refl _)⟩, ⟨_, rfl, (.refl _)⟩, ⟨_, rfl, (.refl _)⟩, ⟨_, rfl, (.refl _)⟩, ⟨_, rfl, (.refl _)⟩, ⟨_, rfl, (.refl _)⟩, ⟨_, rfl, (.refl _)⟩, trivial⟩ ⟨⟨_, rfl, (.refl _)⟩, ⟨_, rfl, (.refl _)⟩, ⟨_, rfl, (.refl _)⟩, ⟨_, rfl, (.refl _)⟩, ⟨_, rfl, (.refl _)⟩, ⟨_, rfl, (.refl _)⟩, ⟨_, rfl, (.refl _)⟩, ⟨_, rfl, (.refl _)⟩, ⟨_, rfl, (.refl _)⟩, ⟨_, rfl, ⟨rfl, (.cons (.cons (.refl _) (.cons (.refl _) (.cons (.refl _) (.cons (.refl _) (.cons (.refl _) (.cons (cv_slen (Eq.symm lx26)) (.cons (.refl _) (.cons (.refl _) .nil)))))))) .nil)⟩⟩, trivial⟩) ?_
            rintro n ⟨y1_1, y1_2⟩ _ hm h3 Q8 ln8 lx8 lr8
            replace h3 : d_master_Start_L1 a1 (n + 1) y1_1 y1_2 = some _ := h3
            rw [d_master_Start_L1] at h3
            refine c_show ⟨kn [(2, .pt 2 v3 0 0), (3, int 0), (4, .pt 4 v10 0 0), (5, int (a1.Weights.length : Int)), (6, .pt 11 v31 0 0), (30, int a1.Entities), (31, int y0_1), (46, int ((Int.toNat (a1.Weights.length : Int)) : Int)), (47, int y1_1)], hk [(2, ⟨53, 10, true, true, v3, [[int 0, int 0, .sc (.slice none 0 0), .sc (.slice none 0 0), .sc (.slice none 0 0), .sc (.slice none 0 0), .sc (.slice none 0 0), .sc (.slice none 0 0), .sc (.slice none 0 0), int 0]]⟩), (3, ⟨3, 1, true, true, v7, a1.Weights.map fI⟩), (4, ⟨53, 10, true, true, v10, [[int a1.Entities, int a1.Periods, .sl 3 v7 0 a1.Weights.length, lst 1 (fL 1 fI) x8, lst 1 (fL 1 fI) x9, .sl 5 w0_2 0 y0_3.length, .sc (.slice none 0 0), .sc (.slice none 0 0), .sc (.slice none 0 0), int 0]]⟩), (5, ⟨66, 8, true, true, w0_2, y0_3.map GEnt.av⟩), (6, ⟨72, 4, true, true, v18, x17.map GPool.av⟩), (7, ⟨3, 1, true, true, v21, x20.map fI⟩), (8, ⟨68, 11, true, true, v24, x23.map GRoll.av⟩), (9, ⟨3, 1, true, true, v27, y1_2.map fI⟩), (10, ⟨3, 1, true, true, v30, x29.map fI⟩), (11, ⟨66, 8, true, true, v31, [[int 1, boo false, .sl 6 v18 0 (Int.toNat x15), .sl 7 v21 0 (Int.toNat 17), .sl 8 v24 0 (Int.toNat (a1.Weights.length : Int)), .sl 9 v27 0 y1_2.length, .sl 10 v30 0 (Int.toNat (a1.Weights.length : Int)), .sc (.slice none 0 0)]]⟩)]⟩ ?_
            refine c_seq ?_
            refine c_reg ?_; intro K hK
            obtain ⟨x33, e33, h3⟩ := bnd_e h3
            refine st rfl rfl rfl (yv_to (y := boo x33) (yv_lss rfl rfl rfl) (congrArg boo e33)) ?_
            refine rg_nil (hK _ ?_)
            refine c_seq ?_
            refine c_if (b := x33) rfl ?_ ?_
            · intro hb; subst hb; replace h3 := ct h3
              refine c_skip ?_
              refine c_seq ?_
              refine c_block ?_; intro Q9 bn9 bx9 br9 bo9
              refine c_seq ?_
              refine c_reg ?_; intro K hK
              refine st rfl rfl rfl (yv_move rfl rfl) ?_
              refine st rfl rfl rfl (yv_assign rfl rfl) ?_
              refine rg_nil (hK _ ?_)
              refine c_reg ?_; intro K hK
              refine st rfl rfl rfl (yv_fieldAddr rfl fo66_5 rfl (.pt rfl rfl rfl) (.pt _ _ _ _ _)) ?_
              refine st rfl rfl rfl (yv_load rfl sh22 rfl (.pt rfl rfl rfl) rfl) ?_
              refine st rfl rfl rfl (yv_move rfl rfl) ?_
              obtain ⟨x34, e34, h3⟩ := bind_e h3
              refine st rfl rfl rfl (yv_ixO rfl Try.underlying22 sh3 rfl rfl rfl rfl rfl (Eq.symm rfl) (List.length_map _) e34) ?_
              obtain ⟨x35, e35, h3⟩ := bnd_e h3
              have fx35 := ix_set e34 e35; have lx35 := len_setV e35 (rfl : y1_2.length = y1_2.length)
              refine sstore rfl rfl (yl_ob (ob' := (⟨3, 1, true, true, v27, x35.map fI⟩ : AObj)) (yl_store rfl sh3 rfl rfl rfl rfl rfl (ix_get e34) rfl rfl rfl) (ob_eq (map_setV e35))) ?_
              refine rg_nil (hK _ ?_)
              refine c_nil (bn9 _ ?_)
              refine c_reg ?_; intro K hK
              obtain ⟨x36, e36, h3⟩ := bnd_e h3
              refine st rfl rfl rfl (yv_add rfl rfl rfl e36) ?_
              refine st rfl rfl rfl (yv_move rfl rfl) ?_
              refine rg_nil (hK _ ?_)
              refine c_nil (ln8 _ ⟨(x36, x35), (), h3, leH_kn ⟨⟨_, rfl, (.refl _)⟩, ⟨_, rfl, (.refl _)⟩, ⟨_, rfl, (.refl _)⟩, ⟨_, rfl, (.refl _)⟩, ⟨_, rfl, (.refl _)⟩, ⟨_, rfl, (.refl _)⟩, ⟨_, rfl, (.refl _)⟩, ⟨_, rfl, (.refl _)⟩, ⟨_, rfl, (.refl _)⟩, trivial⟩ ⟨⟨_, rfl, (.refl _)⟩, ⟨_, rfl, (.refl _)⟩, ⟨_, rfl, (.refl _)⟩, ⟨_, rfl, (.refl _)⟩, ⟨_, rfl, (.refl _)⟩, ⟨_, rfl, (.refl _)⟩, ⟨_, rfl, (.refl _)⟩, ⟨_, rfl, (.refl _)⟩, ⟨_, rfl, (.refl _)⟩, ⟨_, rfl, ⟨rfl, (.cons (.cons (.refl _) (.cons (.refl _) (.cons (.refl _) (.cons (.refl _) (.cons (.refl _) (.cons (cv_slen (Eq.symm lx35)) (.cons (.refl _) (.cons (.refl _) .nil)))))))) .nil)⟩⟩, trivial⟩⟩)
            · intro hb; subst hb; replace h3 := cf h3
              refine c_exit (lx8 _ _ (bx7 _ ?_))
              obtain rfl := nxt_e h3
              refine c_nil (jn6 _ ⟨y1_2, (), rfl, leH_kn ⟨⟨_, rfl, (.refl _)⟩, ⟨_, rfl, (.refl _)⟩, ⟨_, rfl, (.refl _)⟩, ⟨_, rfl, (.refl _)⟩, ⟨_, rfl, (.refl _)⟩, ⟨_, rfl, (.refl _)⟩, ⟨_, rfl, (.refl _)⟩, trivial⟩ ⟨⟨_, rfl, (.refl _)⟩, ⟨_, rfl, (.refl _)⟩, ⟨_, rfl, (.refl _)⟩, ⟨_, rfl, (.refl _)⟩, ⟨_, rfl, (.refl _)⟩, ⟨_, rfl, (.refl _)⟩, ⟨_, rfl, (.refl _)⟩, ⟨_, rfl, (.refl _)⟩, ⟨_, rfl, (.refl _)⟩, ⟨_, rfl, (.refl _)⟩, trivial⟩⟩)
          · rintro y2_1 _ rfl
            refine c_show ⟨kn [(2, .pt 2 v3 0 0), (3, int 0), (4, .pt 4 v10 0 0), (5, int (a1.Weights.length : Int)), (6, .pt 11 v31 0 0), (30, int a1.Entities), (31, int y0_1)], hk [(2, ⟨53, 10, true, true, v3, [[int 0, int 0, .sc (.slice none 0 0), .sc (.slice none 0 0), .sc (.slice none 0 0), .sc (.slice none 0 0), .sc (.slice none 0 0), .sc (.slice none 0 0), .sc (.slice none 0 0), int 0]]⟩), (3, ⟨3, 1, true, true, v7, a1.Weights.map fI⟩), (4, ⟨53, 10, true, true, v10, [[int a1.Entities, int a1.Periods, .sl 3 v7 0 a1.Weights.length, lst 1 (fL 1 fI) x8, lst 1 (fL 1 fI) x9, .sl 5 w0_2 0 y0_3.length, .sc (.slice none 0 0), .sc (.slice none 0 0), .sc (.slice none 0 0), int 0]]⟩), (5, ⟨66, 8, true, true, w0_2, y0_3.map GEnt.av⟩), (6, ⟨72, 4, true, true, v18, x17.map GPool.av⟩), (7, ⟨3, 1, true, true, v21, x20.map fI⟩), (8, ⟨68, 11, true, true, v24, x23.map GRoll.av⟩), (9, ⟨3, 1, true, true, v27, y2_1.map fI⟩), (10, ⟨3, 1, true, true, v30, x29.map fI⟩), (11, ⟨66, 8, true, true, v31, [[int 1, boo false, .sl 6 v18 0 (Int.toNat x15), .sl 7 v21 0 (Int.toNat 17), .sl 8 v24 0 (Int.toNat (a1.Weights.length : Int)), .sl 9 v27 0 y2_1.length, .sl 10 v30 0 (Int.toNat (a1.Weights.length : Int)), .sc (.slice none 0 0)]]⟩)]⟩ ?_
            refine c_reg ?_; intro K hK
            refine st rfl rfl rfl (yv_fieldAddr rfl fo53_1 rfl (.pt rfl rfl rfl) (.pt _ _ _ _ _)) ?_
            refine st rfl rfl rfl (yv_load rfl sh48 rfl (.pt rfl rfl rfl) rfl) ?_
            refine st rfl rfl rfl (yv_load rfl sh66 rfl (.pt rfl rfl rfl) rfl) ?_
            refine st rfl rfl rfl (yv_buildSlice (ps := [(0, _)]) (rows := [[int 1, boo false, .sl 6 v18 0 (Int.toNat x15), .sl 7 v21 0 (Int.toNat 17), .sl 8 v24 0 (Int.toNat (a1.Weights.length : Int)), .sl 9 v27 0 y2_1.length, .sl 10 v30 0 (Int.toNat (a1.Weights.length : Int)), .sc (.slice none 0 0)]]) rfl Try.underlying48 bz66 (.cons rfl .nil) (by kernel_rfl) rfl rfl rfl) ?_
            obtain ⟨x37, e37, h2⟩ := bnd_e h2
            obtain ⟨p38, h2⟩ := asrt_e h2
            refine se rfl rfl rfl (Yield.frz 6 rfl (Yield.frz 7 rfl (Yield.frz 8 rfl (Yield.frz 9 rfl (Yield.frz 10 rfl (yl_appT (g := GEnt.av) (l := y0_3) (m := [(⟨1, false, x17, x20, x23, y2_1, x29, []⟩ : GEnt)]) .any rfl Try.underlying48 bz66 by66 rfl rfl rfl rfl rfl rfl rfl rfl rfl rfl (Eq.symm rfl) (CvLL.list (.cons (.cons (.refl _) (.cons (.refl _) (.cons (cv_lst rfl rfl rfl rfl rfl (Eq.symm lx17)) (.cons (cv_lst rfl rfl rfl rfl rfl (Eq.symm lx20)) (.cons (cv_lst rfl rfl rfl rfl rfl (Eq.symm lx23)) (.cons (cv_lst rfl rfl rfl rfl rfl (Eq.symm rfl)) (.cons (cv_lst rfl rfl rfl rfl rfl (Eq.symm lx29)) (.cons (.nil _) .nil)))))))) .nil)) GEnt.one e37 p38)))))) ?_; rintro _ _ ⟨v39, -, rfl, rfl⟩
            refine st rfl rfl rfl (yv_fieldAddr rfl fo53_1 rfl (.pt rfl rfl rfl) (.pt _ _ _ _ _)) ?_
            refine sstore rfl rfl (yl_ob (ob' := (⟨53, 10, true, true, v10, [[int a1.Entities, int a1.Periods, .sl 3 v7 0 a1.Weights.length, lst 1 (fL 1 fI) x8, lst 1 (fL 1 fI) x9, .sl 5 v39 0 x37.length, .sc (.slice none 0 0), .sc (.slice none 0 0), .sc (.slice none 0 0), int 0]]⟩ : AObj)) (yl_store rfl sh48 rfl rfl rfl rfl rfl rfl rfl rfl rfl) rfl) ?_
            refine rg_nil (hK _ ?_)
            refine c_nil (bn5 _ ?_)
            obtain rfl := nxt_e h2
            refine c_nil (jn4 _ ⟨x37, v39, rfl, leH_kn ⟨⟨_, rfl, (.refl _)⟩, ⟨_, rfl, (.refl _)⟩, ⟨_, rfl, (.refl _)⟩, ⟨_, rfl, (.refl _)⟩, ⟨_, rfl, (.refl _)⟩, ⟨_, rfl, (.refl _)⟩, trivial⟩ ⟨⟨_, rfl, (.refl _)⟩, ⟨_, rfl, (.refl _)⟩, ⟨_, rfl, (.refl _)⟩, ⟨_, rfl, (.refl _)⟩, trivial⟩⟩)
        · rintro y3_2 w3_1 rfl
          refine c_show ⟨kn [(2, .pt 2 v3 0 0), (3, int 0), (4, .pt 4 v10 0 0), (5, int (a1.Weights.length : Int)), (30, int a1.Entities), (31, int y0_1)], hk [(2, ⟨53, 10, true, true, v3, [[int 0, int 0, .sc (.slice none 0 0), .sc (.slice none 0 0), .sc (.slice none 0 0), .sc (.slice none 0 0), .sc (.slice none 0 0), .sc (.slice none 0 0), .sc (.slice none 0 0), int 0]]⟩), (3, ⟨3, 1, true, true, v7, a1.Weights.map fI⟩), (4, ⟨53, 10, true, true, v10, [[int a1.Entities, int a1.Periods, .sl 3 v7 0 a1.Weights.length, lst 1 (fL 1 fI) x8, lst 1 (fL 1 fI) x9, .sl 5 w3_1 0 y3_2.length, .sc (.slice none 0 0), .sc (.slice none 0 0), .sc (.slice none 0 0), int 0]]⟩), (5, ⟨66, 8, true, true, w3_1, y3_2.map GEnt.av⟩)]⟩ ?_
          refine c_reg ?_; intro K hK
          obtain ⟨x40, e40, h1⟩ := bnd_e h1
          refine st rfl rfl rfl (yv_add rfl rfl rfl e40) ?_
          refine st rfl rfl rfl (yv_move rfl rfl) ?_
          refine rg_nil (hK _ ?_)
          refine c_nil (ln3 _ ⟨(x40, y3_2), w3_1, h1, leH_kn ⟨⟨_, rfl, (.refl _)⟩, ⟨_, rfl, (.refl _)⟩, ⟨_, rfl, (.refl _)⟩, ⟨_, rfl, (.refl _)⟩, ⟨_, rfl, (.refl _)⟩, ⟨_, rfl, (.refl _)⟩, trivial⟩ ⟨⟨_, rfl, (.refl _)⟩, ⟨_, rfl, (.refl _)⟩, ⟨_, rfl, (.refl _)⟩, ⟨_, rfl, (.refl _)⟩, trivial⟩⟩)
      · intro hb; subst hb; replace h1 := cf h1
        refine c_exit (lx3 _ _ (bx2 _ ?_))
        obtain rfl := nxt_e h1
        refine c_nil (jn1 _ ⟨y0_3, w0_2, rfl, leH_kn ⟨⟨_, rfl, (.refl _)⟩, ⟨_, rfl, (.refl _)⟩, ⟨_, rfl, (.refl _)⟩, trivial⟩ ⟨⟨_, rfl, (.refl _)⟩, ⟨_, rfl, (.refl _)⟩, ⟨_, rfl, (.refl _)⟩, ⟨_, rfl, (.refl _)⟩, trivial⟩⟩)
    · rintro y4_2 w4_1 rfl
      refine c_show ⟨kn [(2, .pt 2 v3 0 0), (3, int 0), (4, .pt 4 v10 0 0)], hk [(2, ⟨53, 10, true, true, v3, [[int 0, int 0, .sc (.slice none 0 0), .sc (.slice none 0 0), .sc (.slice none 0 0), .sc (.slice none 0 0), .sc (.slice none 0 0), .sc (.slice none 0 0), .sc (.slice none 0 0), int 0]]⟩), (3, ⟨3, 1, true, true, v7, a1.Weights.map fI⟩), (4, ⟨53, 10, true, true, v10, [[int a1.Entities, int a1.Periods, .sl 3 v7 0 a1.Weights.length, lst 1 (fL 1 fI) x8, lst 1 (fL 1 fI) x9, .sl 5 w4_1 0 y4_2.length, .sc (.slice none 0 0), .sc (.slice none 0 0), .sc (.slice none 0 0), int 0]]⟩), (5, ⟨66, 8, true, true, w4_1, y4_2.map GEnt.av⟩)]⟩ ?_
      refine c_seq ?_
      refine c_reg ?_; intro K hK
      refine st rfl rfl rfl (yv_load rfl sh53 rfl (.pt rfl rfl rfl) rfl) ?_
      refine sstore rfl rfl (yl_ob (ob' := (⟨53, 10, true, true, v3, [[int a1.Entities, int a1.Periods, .sl 3 v7 0 a1.Weights.length, lst 1 (fL 1 fI) x8, lst 1 (fL 1 fI) x9, .sl 5 w4_1 0 y4_2.length, .sc (.slice none 0 0), .sc (.slice none 0 0), .sc (.slice none 0 0), int 0]]⟩ : AObj)) (yl_store rfl sh53 rfl rfl rfl rfl rfl rfl rfl rfl rfl) rfl) ?_
      refine st rfl rfl rfl (yv_assign rfl rfl) ?_
      refine rg_nil (hK _ ?_)
      obtain rfl := nxt_e h0
      refine c_ret (hret _ _ _ (.cell rfl (.pt rfl rfl rfl) sh53 rfl (.tmp rfl .nil)) (fun _ _ h => h) ?_)
      exact CvL.tup (.cons (CvL.agg (.cons (.refl _) (.cons (.refl _) (.cons (cv_lst rfl rfl rfl rfl rfl (Eq.symm rfl)) (.cons (.refl _) (.cons (.refl _) (.cons (cv_lst rfl rfl rfl rfl rfl (Eq.symm rfl)) (.cons (.nil _) (.cons (.nil _) (.cons (.nil _) (.cons (.refl _) .nil))))))))))) (.cons (.refl _) .nil))
def d_ref04_all_L0 (a1 : List Int) (a2 : Int) (a3 : Int) (a4 : Int) : Nat → Int → Option ((Unit) ⊕ (Bool))
  | 0, _ => none
  | n + 1, y0_1 =>
    bnd (decide (y0_1 < a2)) fun (x7 : Bool) =>
    cond x7 ((show Option (Bool) from
    (ix a1 y0_1).bind fun (x9 : Int) =>
    bnd (decide (x9 < a3)) fun (x10 : Bool) =>
    cond x10 (some (true : Bool)) ((ix a1 y0_1).bind fun (x11 : Int) =>
    bnd (decide (x11 > a4)) fun (x12 : Bool) =>
    some (x12 : Bool))).bind <| fun (y1_1 : Bool) =>
    cond y1_1 (esc (some ((false : Bool)))) (bnd (w64 (y0_1 + 1)) fun (x14 : Int) =>
    d_ref04_all_L0 a1 a2 a3 a4 n (x14 : Int))) (brk ())
def d_ref04_all (n : Nat) (a1 : List Int) (a2 : Int) (a3 : Int) (a4 : Int) : Option (Bool) :=
bnd (decide ((a1.length : Int) ≠ a2)) fun (x5 : Bool) =>
cond x5 (some ((false : Bool))) ((show Option ((Unit) ⊕ (Bool)) from
d_ref04_all_L0 a1 a2 a3 a4 n (0 : Int)).bind <| sel <| fun (_ : Unit) =>
some ((true : Bool)))
theorem d_ref04_all_c {n : Nat} {a1 : List Int} {a2 : Int} {a3 : Int} {a4 : Int} {r : Bool} (h0 : d_ref04_all n a1 a2 a3 a4 = some r) : PP Try.prog 55 [lst 1 fI a1, int a2, int a3, int a4] (fun y => y = boo r) := by
  unfold d_ref04_all at h0
  refine pp_of_pc (R0 := fun y H => Cv (frzH H) y (boo r)) ?_ (fun y H hc => ⟨_, rfl, pvB r, hc⟩)
  refine pc_of' (c := _) Try.func55 rfl rfl ?_; intro Q hret hnorm
  refine c_seq ?_
  refine c_reg ?_; intro K hK
  refine st rfl rfl rfl (yv_assign rfl rfl) ?_
  refine rg_nil (hK _ ?_)
  refine c_seq ?_
  refine c_seq ?_
  refine c_reg ?_; intro K hK
  refine st rfl rfl rfl (yv_move rfl rfl) ?_
  refine st rfl rfl rfl (yv_len_sl rfl Try.underlying22 rfl (lst_len _)) ?_
  refine st rfl rfl rfl (yv_move rfl rfl) ?_
  obtain ⟨x5, e5, h0⟩ := bnd_e h0
  refine st rfl rfl rfl (yv_to (y := boo x5) (yv_neq rfl rfl rfl) (congrArg boo e5)) ?_
  refine rg_nil (hK _ ?_)
  refine c_if (b := x5) rfl ?_ ?_
  · intro hb; subst hb; replace h0 := ct h0
    refine c_seq ?_
    refine c_reg ?_; intro K hK
    refine st rfl rfl rfl (yv_assign rfl rfl) ?_
    refine rg_nil (hK _ ?_)
    obtain rfl := nxt_e h0
    refine c_ret (hret _ _ _ (.tmp rfl .nil) (fun _ _ h => h) ?_)
    exact .refl _
  · intro hb; subst hb; replace h0 := cf h0
    refine c_skip ?_
    refine c_seq ?_
    refine c_seq ?_
    refine c_reg ?_; intro K hK
    refine st rfl rfl rfl (yv_assign rfl rfl) ?_
    refine rg_nil (hK _ ?_)
    obtain ⟨j6, h1, h0⟩ := bind_e h0
    refine c_joinL (fun (a : Unit) (k : Unit) => ⟨kn [(8, boo false)], hk []⟩) (fun a => j6 = .inl a) ?_ ?_
    · intro Q1 jn1 jx1 jr1
      refine c_block ?_; intro Q2 bn2 bx2 br2 bo2
      refine c_loopD (fun (a : Int) (k : Unit) => ⟨kn [(0, lst 1 fI a1), (1, int a2), (2, int a3), (3, int a4), (8, boo false), (9, int a)], hk []⟩) (fun n (a : Int) => d_ref04_all_L0 a1 a2 a3 a4 n a) (0 : Int) () h1 (fun _ => rfl)
        (leH_kn ⟨⟨_, rfl, (.refl _)⟩, ⟨_, rfl, (.refl _)⟩, ⟨_, rfl, (.refl _)⟩, ⟨_, rfl, (.refl _)⟩, ⟨_, rfl, (.refl _)⟩, ⟨_, rfl, (.refl _)⟩, trivial⟩ trivial) ?_
      rintro n y0_1 _ hm h1 Q3 ln3 lx3 lr3
      replace h1 : d_ref04_all_L0 a1 a2 a3 a4 (n + 1) y0_1 = some _ := h1
      rw [d_ref04_all_L0] at h1
      refine c_show ⟨kn [(0, lst 1 fI a1), (1, int a2), (2, int a3), (3, int a4), (8, boo false), (9, int y0_1)], hk []⟩ ?_
      refine c_seq ?_
      refine c_seq ?_
      refine c_reg ?_; intro K hK
      refine st rfl rfl rfl (yv_move rfl rfl) ?_
      refine st rfl rfl rfl (yv_move rfl rfl) ?_
      obtain ⟨x7, e7, h1⟩ := bnd_e h1
      refine st rfl rfl rfl (yv_to (y := boo x7) (yv_lss rfl rfl rfl) (congrArg boo e7)) ?_
      refine rg_nil (hK _ ?_)
      refine c_if (b := x7) rfl ?_ ?_
      · intro hb; subst hb; replace h1 := ct h1
        refine c_skip ?_
        refine c_seq ?_
        refine c_block ?_; intro Q4 bn4 bx4 br4 bo4
        refine c_seq ?_
        obtain ⟨j8, h2, h1⟩ := bind_e h1
        refine c_regL (fun (a : Bool) (k : Unit) => ⟨kn [(0, lst 1 fI a1), (1, int a2), (2, int a3), (3, int a4), (8, boo false), (9, int y0_1), (32, boo a)], hk []⟩) (fun a => a = j8) ?_ ?_
        · intro K hK
          refine st rfl rfl rfl (yv_move rfl rfl) ?_
          refine st rfl rfl rfl (yv_move rfl rfl) ?_
          obtain ⟨x9, e9, h2⟩ := bind_e h2
          refine st rfl rfl rfl (yv_ixT rfl Try.underlying22 sh3 rfl rfl e9) ?_
          refine st rfl rfl rfl (yv_load rfl sh3 rfl (.pp _) rfl) ?_
          refine st rfl rfl rfl (yv_move rfl rfl) ?_
          obtain ⟨x10, e10, h2⟩ := bnd_e h2
          refine st rfl rfl rfl (yv_to (y := boo x10) (yv_lss rfl rfl rfl) (congrArg boo e10)) ?_
          refine st rfl rfl rfl (yv_move rfl rfl) ?_
          refine scases 25 rfl ?_ ?_
          · intro hb; subst hb; replace h2 := ct h2
            refine sk rfl rfl rfl ?_
            refine sk rfl rfl rfl ?_
            refine sk rfl rfl rfl ?_
            refine sk rfl rfl rfl ?_
            refine sk rfl rfl rfl ?_
            refine sk rfl rfl rfl ?_
            refine st rfl rfl rfl (yv_pick rfl rfl (fun _ => rfl) (fun _ => rfl) rfl) ?_
            obtain rfl := nxt_e h2
            refine rg_nil (hK _ ⟨true, (), rfl, leH_kn ⟨⟨_, rfl, (.refl _)⟩, ⟨_, rfl, (.refl _)⟩, ⟨_, rfl, (.refl _)⟩, ⟨_, rfl, (.refl _)⟩, ⟨_, rfl, (.refl _)⟩, ⟨_, rfl, (.refl _)⟩, ⟨_, rfl, (.refl _)⟩, trivial⟩ trivial⟩)
          · intro hb; subst hb; replace h2 := cf h2
            refine st rfl rfl rfl (yv_move rfl rfl) ?_
            refine st rfl rfl rfl (yv_move rfl rfl) ?_
            obtain ⟨x11, e11, h2⟩ := bind_e h2
            refine st rfl rfl rfl (yv_ixT rfl Try.underlying22 sh3 rfl rfl e11) ?_
            refine st rfl rfl rfl (yv_load rfl sh3 rfl (.pp _) rfl) ?_
            refine st rfl rfl rfl (yv_move rfl rfl) ?_
            obtain ⟨x12, e12, h2⟩ := bnd_e h2
            refine st rfl rfl rfl (yv_to (y := boo x12) (yv_gtr rfl rfl rfl) (congrArg boo e12)) ?_
            refine st rfl rfl rfl (yv_pick rfl rfl (fun _ => rfl) (fun _ => rfl) rfl) ?_
            obtain rfl := nxt_e h2
            refine rg_nil (hK _ ⟨x12, (), rfl, leH_kn ⟨⟨_, rfl, (.refl _)⟩, ⟨_, rfl, (.refl _)⟩, ⟨_, rfl, (.refl _)⟩, ⟨_, rfl, (.refl _)⟩, ⟨_, rfl, (.refl _)⟩, ⟨_, rfl, (.refl _)⟩, ⟨_, rfl, (.refl _)⟩, trivial⟩ trivial⟩)
        · rintro y1_1 _ rfl
          refine c_show ⟨kn [(0, lst 1 fI a1), (1, int a2), (2, int a3), (3, int a4), (8, boo false), (9, int y0_1), (32, boo y1_1)], hk []⟩ ?_
          refine c_if (b := y1_1) rfl ?_ ?_
          · intro hb; subst hb; replace h1 := ct h1
            refine c_seq ?_
            refine c_reg ?_; intro K hK
            refine st rfl rfl rfl (yv_assign rfl rfl) ?_
            refine rg_nil (hK _ ?_)
            obtain ⟨c13, hX, hj⟩ := esc_e h1; subst hj; replace h0 := hX.trans (sel_r h0)
            obtain rfl := nxt_e h0
            refine c_ret (br4 _ (lr3 _ (br2 _ (jr1 _ (hret _ _ _ (.tmp rfl .nil) (fun _ _ h => h) ?_)))))
            exact .refl _
          · intro hb; subst hb; replace h1 := cf h1
            refine c_skip ?_
            refine c_nil (bn4 _ ?_)
            refine c_reg ?_; intro K hK
            refine st rfl rfl rfl (yv_move rfl rfl) ?_
            obtain ⟨x14, e14, h1⟩ := bnd_e h1
            refine st rfl rfl rfl (yv_add rfl rfl rfl e14) ?_
            refine st rfl rfl rfl (yv_assign rfl rfl) ?_
            refine rg_nil (hK _ ?_)
            refine c_nil (ln3 _ ⟨x14, (), h1, leH_kn ⟨⟨_, rfl, (.refl _)⟩, ⟨_, rfl, (.refl _)⟩, ⟨_, rfl, (.refl _)⟩, ⟨_, rfl, (.refl _)⟩, ⟨_, rfl, (.refl _)⟩, ⟨_, rfl, (.refl _)⟩, trivial⟩ trivial⟩)
      · intro hb; subst hb; replace h1 := cf h1
        refine c_exit (lx3 _ _ (bx2 _ ?_))
        obtain rfl := brk_e h1
        refine c_nil (jn1 _ ⟨(), (), rfl, leH_kn ⟨⟨_, rfl, (.refl _)⟩, trivial⟩ trivial⟩)
    · rintro _ _ rfl
      replace h0 := sel_l h0
      refine c_show ⟨kn [(8, boo false)], hk []⟩ ?_
      refine c_seq ?_
      refine c_reg ?_; intro K hK
      refine st rfl rfl rfl (yv_assign rfl rfl) ?_
      refine rg_nil (hK _ ?_)
      obtain rfl := nxt_e h0
      refine c_ret (hret _ _ _ (.tmp rfl .nil) (fun _ _ h => h) ?_)
      exact .refl _
def d_ref04_Check_L0 (a1 : GMaster) : Nat → Int → Option ((Unit) ⊕ (Bool))
  | 0, _ => none
  | n + 1, y1_1 =>
    bnd (decide (y1_1 < a1.Entities)) fun (x15 : Bool) =>
    cond x15 ((show Option (Bool) from
    (ix a1.Methods y1_1).bind fun (x17 : List Int) =>
    (d_ref04_all n x17 (a1.Weights.length : Int) 1 4).bind fun (x18 : Bool) =>
    bnd (!x18) fun (x19 : Bool) =>
    cond x19 (some (true : Bool)) ((ix a1.Costs y1_1).bind fun (x20 : List Int) =>
    (d_ref04_all n x20 (a1.Weights.length : Int) 0 1073741824).bind fun (x21 : Bool) =>
    bnd (!x21) fun (x22 : Bool) =>
    some (x22 : Bool))).bind <| fun (y2_1 : Bool) =>
    cond y2_1 (esc (some ((false : Bool)))) (bnd (w64 (y1_1 + 1)) fun (x24 : Int) =>
    d_ref04_Check_L0 a1 n (x24 : Int))) (brk ())
def d_ref04_Check (n : Nat) (a1 : GMaster) : Option (Bool) :=
(show Option (Bool) from
bnd (decide (a1.Entities < 1)) fun (x4 : Bool) =>
cond x4 (some (true : Bool)) (bnd (decide (a1.Entities > 4)) fun (x5 : Bool) =>
cond x5 (some (true : Bool)) (bnd (decide (a1.Periods < 1)) fun (x6 : Bool) =>
cond x6 (some (true : Bool)) (bnd (decide (a1.Periods > 12)) fun (x7 : Bool) =>
cond x7 (some (true : Bool)) (bnd (decide ((a1.Weights.length : Int) < 1)) fun (x8 : Bool) =>
cond x8 (some (true : Bool)) (bnd (decide ((a1.Weights.length : Int) > 5)) fun (x9 : Bool) =>
cond x9 (some (true : Bool)) ((d_ref04_all n a1.Weights (a1.Weights.length : Int) 0 1073741824).bind fun (x10 : Bool) =>
bnd (!x10) fun (x11 : Bool) =>
cond x11 (some (true : Bool)) (bnd (decide ((a1.Methods.length : Int) ≠ a1.Entities)) fun (x12 : Bool) =>
cond x12 (some (true : Bool)) (bnd (decide ((a1.Costs.length : Int) ≠ a1.Entities)) fun (x13 : Bool) =>
some (x13 : Bool)))))))))).bind <| fun (y0_1 : Bool) =>
cond y0_1 (some ((false : Bool))) ((show Option ((Unit) ⊕ (Bool)) from
d_ref04_Check_L0 a1 n (0 : Int)).bind <| sel <| fun (_ : Unit) =>
some ((true : Bool)))
theorem d_ref04_Check_c {n : Nat} {a1 : GMaster} {r : Bool} (h0 : d_ref04_Check n a1 = some r) : PP Try.prog 31 [.agg (GMaster.av a1)] (fun y => y = boo r) := by
  unfold d_ref04_Check at h0
  refine pp_of_pc (R0 := fun y H => Cv (frzH H) y (boo r)) ?_ (fun y H hc => ⟨_, rfl, pvB r, hc⟩)
  refine pc_of' (c := _) Try.func31 rfl rfl ?_; intro Q hret hnorm
  refine c_seq ?_
  refine c_reg ?_; intro K hK
  refine se rfl rfl rfl (yl_box 1 .any rfl rfl rfl) ?_; rintro _ _ ⟨v2, -, rfl, rfl⟩
  refine st rfl rfl rfl (yv_assign rfl rfl) ?_
  refine rg_nil (hK _ ?_)
  refine c_seq ?_
  refine c_reg ?_; intro K hK
  refine st rfl rfl rfl (yv_fieldAddr rfl fo43_2 rfl (.pt rfl rfl rfl) (.pt _ _ _ _ _)) ?_
  refine st rfl rfl rfl (yv_load rfl sh22 rfl (.pt rfl rfl rfl) rfl) ?_
  refine st rfl rfl rfl (yv_len_sl rfl Try.underlying22 rfl (lst_len _)) ?_
  refine st rfl rfl rfl (yv_assign rfl rfl) ?_
  refine rg_nil (hK _ ?_)
  refine c_seq ?_
  refine c_seq ?_
  obtain ⟨j3, h1, h0⟩ := bind_e h0
  refine c_regL (fun (a : Bool) (k : Unit) => ⟨kn [(1, .pt 1 v2 0 0), (2, boo false), (3, int (a1.Weights.length : Int)), (56, boo a)], hk [(1, ⟨43, 5, true, true, v2, [[int a1.Entities, int a1.Periods, lst 1 fI a1.Weights, lst 1 (fL 1 fI) a1.Methods, lst 1 (fL 1 fI) a1.Costs]]⟩)]⟩) (fun a => a = j3) ?_ ?_
  · intro K hK
    refine st rfl rfl rfl (yv_fieldAddr rfl fo43_0 rfl (.pt rfl rfl rfl) (.pt _ _ _ _ _)) ?_
    refine st rfl rfl rfl (yv_load rfl sh3 rfl (.pt rfl rfl rfl) rfl) ?_
    obtain ⟨x4, e4, h1⟩ := bnd_e h1
    refine st rfl rfl rfl (yv_to (y := boo x4) (yv_lss rfl rfl rfl) (congrArg boo e4)) ?_
    refine st rfl rfl rfl (yv_move rfl rfl) ?_
    refine scases 11 rfl ?_ ?_
    · intro hb; subst hb; replace h1 := ct h1
      refine sk rfl rfl rfl ?_
      refine sk rfl rfl rfl ?_
      refine sk rfl rfl rfl ?_
      refine st rfl rfl rfl (yv_pick rfl rfl (fun _ => rfl) (fun _ => rfl) rfl) ?_
      refine st rfl rfl rfl (yv_move rfl rfl) ?_
      refine sk rfl rfl rfl ?_
      refine sk rfl rfl rfl ?_
      refine sk rfl rfl rfl ?_
      refine st rfl rfl rfl (yv_pick rfl rfl (fun _ => rfl) (fun _ => rfl) rfl) ?_
      refine st rfl rfl rfl (yv_move rfl rfl) ?_
      refine sk rfl rfl rfl ?_
      refine sk rfl rfl rfl ?_
      refine sk rfl rfl rfl ?_
      refine st rfl rfl rfl (yv_pick rfl rfl (fun _ => rfl) (fun _ => rfl) rfl) ?_
      refine st rfl rfl rfl (yv_move rfl rfl) ?_
      refine sk rfl rfl rfl ?_
      refine sk rfl rfl rfl ?_
      refine st rfl rfl rfl (yv_pick rfl rfl (fun _ => rfl) (fun _ => rfl) rfl) ?_
      refine st rfl rfl rfl (yv_move rfl rfl) ?_
      refine sk rfl rfl rfl ?_
      refine sk rfl rfl rfl ?_
      refine st rfl rfl rfl (yv_pick rfl rfl (fun _ => rfl) (fun _ => rfl) rfl) ?_
      refine st rfl rfl rfl (yv_move rfl rfl) ?_
      refine sk rfl rfl rfl ?_
      refine sk rfl rfl rfl ?_
      refine sk rfl rfl rfl ?_
      refine sk rfl rfl rfl ?_
      refine sk rfl rfl rfl ?_
      refine st rfl rfl rfl (yv_pick rfl rfl (fun _ => rfl) (fun _ => rfl) rfl) ?_
      refine st rfl rfl rfl (yv_move rfl rfl) ?_
      refine sk rfl rfl rfl ?_
      refine sk rfl rfl rfl ?_
      refine sk rfl rfl rfl ?_
      refine sk rfl rfl rfl ?_
      refine sk rfl rfl rfl ?_
      refine sk rfl rfl rfl ?_
      refine st rfl rfl rfl (yv_pick rfl rfl (fun _ => rfl) (fun _ => rfl) rfl) ?_
      refine st rfl rfl rfl (yv_move rfl rfl) ?_
      refine sk rfl rfl rfl ?_
      refine sk rfl rfl rfl ?_
      refine sk rfl rfl rfl ?_
      refine sk rfl rfl rfl ?_
      refine sk rfl rfl rfl ?_
      refine sk rfl rfl rfl ?_
      refine st rfl rfl rfl (yv_pick rfl rfl (fun _ => rfl) (fun _ => rfl) rfl) ?_
      obtain rfl := nxt_e h1
      refine rg_nil (hK _ ⟨true, (), rfl, leH_kn ⟨⟨_, rfl, (.refl _)⟩, ⟨_, rfl, (.refl _)⟩, ⟨_, rfl, (.refl _)⟩, ⟨_, rfl, (.refl _)⟩, trivial⟩ ⟨⟨_, rfl, (.refl _)⟩, trivial⟩⟩)
    · intro hb; subst hb; replace h1 := cf h1
      refine st rfl rfl rfl (yv_fieldAddr rfl fo43_0 rfl (.pt rfl rfl rfl) (.pt _ _ _ _ _)) ?_
      refine st rfl rfl rfl (yv_load rfl sh3 rfl (.pt rfl rfl rfl) rfl) ?_
      obtain ⟨x5, e5, h1⟩ := bnd_e h1
      refine st rfl rfl rfl (yv_to (y := boo x5) (yv_gtr rfl rfl rfl) (congrArg boo e5)) ?_
      refine st rfl rfl rfl (yv_pick rfl rfl (fun _ => rfl) (fun _ => rfl) rfl) ?_
      refine st rfl rfl rfl (yv_move rfl rfl) ?_
      refine scases 16 rfl ?_ ?_
      · intro hb; subst hb; replace h1 := ct h1
        refine sk rfl rfl rfl ?_
        refine sk rfl rfl rfl ?_
        refine sk rfl rfl rfl ?_
        refine st rfl rfl rfl (yv_pick rfl rfl (fun _ => rfl) (fun _ => rfl) rfl) ?_
        refine st rfl rfl rfl (yv_move rfl rfl) ?_
        refine sk rfl rfl rfl ?_
        refine sk rfl rfl rfl ?_
        refine sk rfl rfl rfl ?_
        refine st rfl rfl rfl (yv_pick rfl rfl (fun _ => rfl) (fun _ => rfl) rfl) ?_
        refine st rfl rfl rfl (yv_move rfl rfl) ?_
        refine sk rfl rfl rfl ?_
        refine sk rfl rfl rfl ?_
        refine st rfl rfl rfl (yv_pick rfl rfl (fun _ => rfl) (fun _ => rfl) rfl) ?_
        refine st rfl rfl rfl (yv_move rfl rfl) ?_
        refine sk rfl rfl rfl ?_
        refine sk rfl rfl rfl ?_
        refine st rfl rfl rfl (yv_pick rfl rfl (fun _ => rfl) (fun _ => rfl) rfl) ?_
        refine st rfl rfl rfl (yv_move rfl rfl) ?_
        refine sk rfl rfl rfl ?_
        refine sk rfl rfl rfl ?_
        refine sk rfl rfl rfl ?_
        refine sk rfl rfl rfl ?_
        refine sk rfl rfl rfl ?_
        refine st rfl rfl rfl (yv_pick rfl rfl (fun _ => rfl) (fun _ => rfl) rfl) ?_
        refine st rfl rfl rfl (yv_move rfl rfl) ?_
        refine sk rfl rfl rfl ?_
        refine sk rfl rfl rfl ?_
        refine sk rfl rfl rfl ?_
        refine sk rfl rfl rfl ?_
        refine sk rfl rfl rfl ?_
        refine sk rfl rfl rfl ?_
        refine st rfl rfl rfl (yv_pick rfl rfl (fun _ => rfl) (fun _ => rfl) rfl) ?_
        refine st rfl rfl rfl (yv_move rfl rfl) ?_
        refine sk rfl rfl rfl ?_
        refine sk rfl rfl rfl ?_
        refine sk rfl rfl rfl ?_
        refine sk rfl rfl rfl ?_
        refine sk rfl rfl rfl ?_
        refine sk rfl rfl rfl ?_
        refine st rfl rfl rfl (yv_pick rfl rfl (fun _ => rfl) (fun _ => rfl) rfl) ?_
        obtain rfl := nxt_e h1
        refine rg_nil (hK _ ⟨true, (), rfl, leH_kn ⟨⟨_, rfl, (.refl _)⟩, ⟨_, rfl, (.refl _)⟩, ⟨_, rfl, (.refl _)⟩, ⟨_, rfl, (.refl _)⟩, trivial⟩ ⟨⟨_, rfl, (.refl _)⟩, trivial⟩⟩)
      · intro hb; subst hb; replace h1 := cf h1
        refine st rfl rfl rfl (yv_fieldAddr rfl fo43_1 rfl (.pt rfl rfl rfl) (.pt _ _ _ _ _)) ?_
        refine st rfl rfl rfl (yv_load rfl sh3 rfl (.pt rfl rfl rfl) rfl) ?_
        obtain ⟨x6, e6, h1⟩ := bnd_e h1
        refine st rfl rfl rfl (yv_to (y := boo x6) (yv_lss rfl rfl rfl) (congrArg boo e6)) ?_
        refine st rfl rfl rfl (yv_pick rfl rfl (fun _ => rfl) (fun _ => rfl) rfl) ?_
        refine st rfl rfl rfl (yv_move rfl rfl) ?_
        refine scases 21 rfl ?_ ?_
        · intro hb; subst hb; replace h1 := ct h1
          refine sk rfl rfl rfl ?_
          refine sk rfl rfl rfl ?_
          refine sk rfl rfl rfl ?_
          refine st rfl rfl rfl (yv_pick rfl rfl (fun _ => rfl) (fun _ => rfl) rfl) ?_
          refine st rfl rfl rfl (yv_move rfl rfl) ?_
          refine sk rfl rfl rfl ?_
          refine sk rfl rfl rfl ?_
          refine st rfl rfl rfl (yv_pick rfl rfl (fun _ => rfl) (fun _ => rfl) rfl) ?_
          refine st rfl rfl rfl (yv_move rfl rfl) ?_
          refine sk rfl rfl rfl ?_
          refine sk rfl rfl rfl ?_
          refine st rfl rfl rfl (yv_pick rfl rfl (fun _ => rfl) (fun _ => rfl) rfl) ?_
          refine st rfl rfl rfl (yv_move rfl rfl) ?_
          refine sk rfl rfl rfl ?_
          refine sk rfl rfl rfl ?_
          refine sk rfl rfl rfl ?_
          refine sk rfl rfl rfl ?_
          refine sk rfl rfl rfl ?_
          refine st rfl rfl rfl (yv_pick rfl rfl (fun _ => rfl) (fun _ => rfl) rfl) ?_
          refine st rfl rfl rfl (yv_move rfl rfl) ?_
          refine sk rfl rfl rfl ?_
          refine sk rfl rfl rfl ?_
          refine sk rfl rfl rfl ?_
          refine sk rfl rfl rfl ?_
          refine sk rfl rfl rfl ?_
          refine sk rfl rfl rfl ?_
          refine st rfl rfl rfl (yv_pick rfl rfl (fun _ => rfl) (fun _ => rfl) rfl) ?_
          refine st rfl rfl rfl (yv_move rfl rfl) ?_
          refine sk rfl rfl rfl ?_
          refine sk rfl rfl rfl ?_
          refine sk rfl rfl rfl ?_
          refine sk rfl rfl rfl ?_
          refine sk rfl rfl rfl ?_
          refine sk rfl rfl rfl ?_
          refine st rfl rfl rfl (yv_pick rfl rfl (fun _ => rfl) (fun _ => rfl) rfl) ?_
          obtain rfl := nxt_e h1
          refine rg_nil (hK _ ⟨true, (), rfl, leH_kn ⟨⟨_, rfl, (.refl _)⟩, ⟨_, rfl, (.refl _)⟩, ⟨_, rfl, (.refl _)⟩, ⟨_, rfl, (.refl _)⟩, trivial⟩ ⟨⟨_, rfl, (.refl _)⟩, trivial⟩⟩)
        · intro hb; subst hb; replace h1 := cf h1
          refine st rfl rfl rfl (yv_fieldAddr rfl fo43_1 rfl (.pt rfl rfl rfl) (.pt _ _ _ _ _)) ?_
          refine st rfl rfl rfl (yv_load rfl sh3 rfl (.pt rfl rfl rfl) rfl) ?_
          obtain ⟨x7, e7, h1⟩ := bnd_e h1
          refine st rfl rfl rfl (yv_to (y := boo x7) (yv_gtr rfl rfl rfl) (congrArg boo e7)) ?_
          refine st rfl rfl rfl (yv_pick rfl rfl (fun _ => rfl) (fun _ => rfl) rfl) ?_
          refine st rfl rfl rfl (yv_move rfl rfl) ?_
          refine scases 26 rfl ?_ ?_
          · intro hb; subst hb; replace h1 := ct h1
            refine sk rfl rfl rfl ?_
            refine sk rfl rfl rfl ?_
            refine st rfl rfl rfl (yv_pick rfl rfl (fun _ => rfl) (fun _ => rfl) rfl) ?_
            refine st rfl rfl rfl (yv_move rfl rfl) ?_
            refine sk rfl rfl rfl ?_
            refine sk rfl rfl rfl ?_
            refine st rfl rfl rfl (yv_pick rfl rfl (fun _ => rfl) (fun _ => rfl) rfl) ?_
            refine st rfl rfl rfl (yv_move rfl rfl) ?_
            refine sk rfl rfl rfl ?_
            refine sk rfl rfl rfl ?_
            refine sk rfl rfl rfl ?_
            refine sk rfl rfl rfl ?_
            refine sk rfl rfl rfl ?_
            refine st rfl rfl rfl (yv_pick rfl rfl (fun _ => rfl) (fun _ => rfl) rfl) ?_
            refine st rfl rfl rfl (yv_move rfl rfl) ?_
            refine sk rfl rfl rfl ?_
            refine sk rfl rfl rfl ?_
            refine sk rfl rfl rfl ?_
            refine sk rfl rfl rfl ?_
            refine sk rfl rfl rfl ?_
            refine sk rfl rfl rfl ?_
            refine st rfl rfl rfl (yv_pick rfl rfl (fun _ => rfl) (fun _ => rfl) rfl) ?_
            refine st rfl rfl rfl (yv_move rfl rfl) ?_
            refine sk rfl rfl rfl ?_
            refine sk rfl rfl rfl ?_
            refine sk rfl rfl rfl ?_
            refine sk rfl rfl rfl ?_
            refine sk rfl rfl rfl ?_
            refine sk rfl rfl rfl ?_
            refine st rfl rfl rfl (yv_pick rfl rfl (fun _ => rfl) (fun _ => rfl) rfl) ?_
            obtain rfl := nxt_e h1
            refine rg_nil (hK _ ⟨true, (), rfl, leH_kn ⟨⟨_, rfl, (.refl _)⟩, ⟨_, rfl, (.refl _)⟩, ⟨_, rfl, (.refl _)⟩, ⟨_, rfl, (.refl _)⟩, trivial⟩ ⟨⟨_, rfl, (.refl _)⟩, trivial⟩⟩)
          · intro hb; subst hb; replace h1 := cf h1
            refine st rfl rfl rfl (yv_move rfl rfl) ?_
            obtain ⟨x8, e8, h1⟩ := bnd_e h1
            refine st rfl rfl rfl (yv_to (y := boo x8) (yv_lss rfl rfl rfl) (congrArg boo e8)) ?_
            refine st rfl rfl rfl (yv_pick rfl rfl (fun _ => rfl) (fun _ => rfl) rfl) ?_
            refine st rfl rfl rfl (yv_move rfl rfl) ?_
            refine scases 30 rfl ?_ ?_
            · intro hb; subst hb; replace h1 := ct h1
              refine sk rfl rfl rfl ?_
              refine sk rfl rfl rfl ?_
              refine st rfl rfl rfl (yv_pick rfl rfl (fun _ => rfl) (fun _ => rfl) rfl) ?_
              refine st rfl rfl rfl (yv_move rfl rfl) ?_
              refine sk rfl rfl rfl ?_
              refine sk rfl rfl rfl ?_
              refine sk rfl rfl rfl ?_
              refine sk rfl rfl rfl ?_
              refine sk rfl rfl rfl ?_
              refine st rfl rfl rfl (yv_pick rfl rfl (fun _ => rfl) (fun _ => rfl) rfl) ?_
              refine st rfl rfl rfl (yv_move rfl rfl) ?_
              refine sk rfl rfl rfl ?_
              refine sk rfl rfl rfl ?_
              refine sk rfl rfl rfl ?_
              refine sk rfl rfl rfl ?_
              refine sk rfl rfl rfl ?_
              refine sk rfl rfl rfl ?_
              refine st rfl rfl rfl (yv_pick rfl rfl (fun _ => rfl) (fun _ => rfl) rfl) ?_
              refine st rfl rfl rfl (yv_move rfl rfl) ?_
              refine sk rfl rfl rfl ?_
              refine sk rfl rfl rfl ?_
              refine sk rfl rfl rfl ?_
              refine sk rfl rfl rfl ?_
              refine sk rfl rfl rfl ?_
              refine sk rfl rfl rfl ?_
              refine st rfl rfl rfl (yv_pick rfl rfl (fun _ => rfl) (fun _ => rfl) rfl) ?_
              obtain rfl := nxt_e h1
              refine rg_nil (hK _ ⟨true, (), rfl, leH_kn ⟨⟨_, rfl, (.refl _)⟩, ⟨_, rfl, (.refl _)⟩, ⟨_, rfl, (.refl _)⟩, ⟨_, rfl, (.refl _)⟩, trivial⟩ ⟨⟨_, rfl, (.refl _)⟩, trivial⟩⟩)
            · intro hb; subst hb; replace h1 := cf h1
              refine st rfl rfl rfl (yv_move rfl rfl) ?_
              obtain ⟨x9, e9, h1⟩ := bnd_e h1
              refine st rfl rfl rfl (yv_to (y := boo x9) (yv_gtr rfl rfl rfl) (congrArg boo e9)) ?_
              refine st rfl rfl rfl (yv_pick rfl rfl (fun _ => rfl) (fun _ => rfl) rfl) ?_
              refine st rfl rfl rfl (yv_move rfl rfl) ?_
              refine scases 34 rfl ?_ ?_
              · intro hb; subst hb; replace h1 := ct h1
                refine sk rfl rfl rfl ?_
                refine sk rfl rfl rfl ?_
                refine sk rfl rfl rfl ?_
                refine sk rfl rfl rfl ?_
                refine sk rfl rfl rfl ?_
                refine st rfl rfl rfl (yv_pick rfl rfl (fun _ => rfl) (fun _ => rfl) rfl) ?_
                refine st rfl rfl rfl (yv_move rfl rfl) ?_
                refine sk rfl rfl rfl ?_
                refine sk rfl rfl rfl ?_
                refine sk rfl rfl rfl ?_
                refine sk rfl rfl rfl ?_
                refine sk rfl rfl rfl ?_
                refine sk rfl rfl rfl ?_
                refine st rfl rfl rfl (yv_pick rfl rfl (fun _ => rfl) (fun _ => rfl) rfl) ?_
                refine st rfl rfl rfl (yv_move rfl rfl) ?_
                refine sk rfl rfl rfl ?_
                refine sk rfl rfl rfl ?_
                refine sk rfl rfl rfl ?_
                refine sk rfl rfl rfl ?_
                refine sk rfl rfl rfl ?_
                refine sk rfl rfl rfl ?_
                refine st rfl rfl rfl (yv_pick rfl rfl (fun _ => rfl) (fun _ => rfl) rfl) ?_
                obtain rfl := nxt_e h1
                refine rg_nil (hK _ ⟨true, (), rfl, leH_kn ⟨⟨_, rfl, (.refl _)⟩, ⟨_, rfl, (.refl _)⟩, ⟨_, rfl, (.refl _)⟩, ⟨_, rfl, (.refl _)⟩, trivial⟩ ⟨⟨_, rfl, (.refl _)⟩, trivial⟩⟩)
              · intro hb; subst hb; replace h1 := cf h1
                refine st rfl rfl rfl (yv_fieldAddr rfl fo43_2 rfl (.pt rfl rfl rfl) (.pt _ _ _ _ _)) ?_
                refine st rfl rfl rfl (yv_load rfl sh22 rfl (.pt rfl rfl rfl) rfl) ?_
                refine st rfl rfl rfl (yv_move rfl rfl) ?_
                obtain ⟨x10, e10, h1⟩ := bind_e h1
                refine st rfl rfl rfl (yv_callP rfl rfl (.cons rfl (.cons rfl (.cons rfl (.cons rfl .nil)))) cal55 (CvL.refl _) (d_ref04_all_c e10)) ?_
                obtain ⟨x11, e11, h1⟩ := bnd_e h1
                refine st rfl rfl rfl (yv_not rfl rfl e11) ?_
                refine st rfl rfl rfl (yv_pick rfl rfl (fun _ => rfl) (fun _ => rfl) rfl) ?_
                refine st rfl rfl rfl (yv_move rfl rfl) ?_
                refine scases 41 rfl ?_ ?_
                · intro hb; subst hb; replace h1 := ct h1
                  refine sk rfl rfl rfl ?_
                  refine sk rfl rfl rfl ?_
                  refine sk rfl rfl rfl ?_
                  refine sk rfl rfl rfl ?_
                  refine sk rfl rfl rfl ?_
                  refine sk rfl rfl rfl ?_
                  refine st rfl rfl rfl (yv_pick rfl rfl (fun _ => rfl) (fun _ => rfl) rfl) ?_
                  refine st rfl rfl rfl (yv_move rfl rfl) ?_
                  refine sk rfl rfl rfl ?_
                  refine sk rfl rfl rfl ?_
                  refine sk rfl rfl rfl ?_
                  refine sk rfl rfl rfl ?_
                  refine sk rfl rfl rfl ?_
                  refine sk rfl rfl rfl ?_
                  refine st rfl rfl rfl (yv_pick rfl rfl (fun _ => rfl) (fun _ => rfl) rfl) ?_
                  obtain rfl := nxt_e h1
                  refine rg_nil (hK _ ⟨true, (), rfl, leH_kn ⟨⟨_, rfl, (.refl _)⟩, ⟨_, rfl, (.refl _)⟩, ⟨_, rfl, (.refl _)⟩, ⟨_, rfl, (.refl _)⟩, trivial⟩ ⟨⟨_, rfl, (.refl _)⟩, trivial⟩⟩)
                · intro hb; subst hb; replace h1 := cf h1
                  refine st rfl rfl rfl (yv_fieldAddr rfl fo43_3 rfl (.pt rfl rfl rfl) (.pt _ _ _ _ _)) ?_
                  refine st rfl rfl rfl (yv_load rfl sh41 rfl (.pt rfl rfl rfl) rfl) ?_
                  refine st rfl rfl rfl (yv_len_sl rfl Try.underlying41 rfl (lst_len _)) ?_
                  refine st rfl rfl rfl (yv_fieldAddr rfl fo43_0 rfl (.pt rfl rfl rfl) (.pt _ _ _ _ _)) ?_
                  refine st rfl rfl rfl (yv_load rfl sh3 rfl (.pt rfl rfl rfl) rfl) ?_
                  obtain ⟨x12, e12, h1⟩ := bnd_e h1
                  refine st rfl rfl rfl (yv_to (y := boo x12) (yv_neq rfl rfl rfl) (congrArg boo e12)) ?_
                  refine st rfl rfl rfl (yv_pick rfl rfl (fun _ => rfl) (fun _ => rfl) rfl) ?_
                  refine st rfl rfl rfl (yv_move rfl rfl) ?_
                  refine scases 49 rfl ?_ ?_
                  · intro hb; subst hb; replace h1 := ct h1
                    refine sk rfl rfl rfl ?_
                    refine sk rfl rfl rfl ?_
                    refine sk rfl rfl rfl ?_
                    refine sk rfl rfl rfl ?_
                    refine sk rfl rfl rfl ?_
                    refine sk rfl rfl rfl ?_
                    refine st rfl rfl rfl (yv_pick rfl rfl (fun _ => rfl) (fun _ => rfl) rfl) ?_
                    obtain rfl := nxt_e h1
                    refine rg_nil (hK _ ⟨true, (), rfl, leH_kn ⟨⟨_, rfl, (.refl _)⟩, ⟨_, rfl, (.refl _)⟩, ⟨_, rfl, (.refl _)⟩, ⟨_, rfl, (.refl _)⟩, trivial⟩ ⟨⟨_, rfl, (.refl _)⟩, trivial⟩⟩)
                  · intro hb; subst hb; replace h1 := cf h1
                    refine st rfl rfl rfl (yv_fieldAddr rfl fo43_4 rfl (.pt rfl rfl rfl) (.pt _ _ _ _ _)) ?_
                    refine st rfl rfl rfl (yv_load rfl sh41 rfl (.pt rfl rfl rfl) rfl) ?_
                    refine st rfl rfl rfl (yv_len_sl rfl Try.underlying41 rfl (lst_len _)) ?_
                    refine st rfl rfl rfl (yv_fieldAddr rfl fo43_0 rfl (.pt rfl rfl rfl) (.pt _ _ _ _ _)) ?_
                    refine st rfl rfl rfl (yv_load rfl sh3 rfl (.pt rfl rfl rfl) rfl) ?_
                    obtain ⟨x13, e13, h1⟩ := bnd_e h1
                    refine st rfl rfl rfl (yv_to (y := boo x13) (yv_neq rfl rfl rfl) (congrArg boo e13)) ?_
                    refine st rfl rfl rfl (yv_pick rfl rfl (fun _ => rfl) (fun _ => rfl) rfl) ?_
                    obtain rfl := nxt_e h1
                    refine rg_nil (hK _ ⟨x13, (), rfl, leH_kn ⟨⟨_, rfl, (.refl _)⟩, ⟨_, rfl, (.refl _)⟩, ⟨_, rfl, (.refl _)⟩, ⟨_, rfl, (.refl _)⟩, trivial⟩ ⟨⟨_, rfl, (.refl _)⟩, trivial⟩⟩)
  · rintro y0_1 _ rfl
    refine c_show ⟨kn [(1, .pt 1 v2 0 0), (2, boo false), (3, int (a1.Weights.length : Int)), (56, boo y0_1)], hk [(1, ⟨43, 5, true, true, v2, [[int a1.Entities, int a1.Periods, lst 1 fI a1.Weights, lst 1 (fL 1 fI) a1.Methods, lst 1 (fL 1 fI) a1.Costs]]⟩)]⟩ ?_
    refine c_if (b := y0_1) rfl ?_ ?_
    · intro hb; subst hb; replace h0 := ct h0
      refine c_seq ?_
      refine c_reg ?_; intro K hK
      refine st rfl rfl rfl (yv_assign rfl rfl) ?_
      refine rg_nil (hK _ ?_)
      obtain rfl := nxt_e h0
      refine c_ret (hret _ _ _ (.tmp rfl .nil) (fun _ _ h => h) ?_)
      exact .refl _
    · intro hb; subst hb; replace h0 := cf h0
      refine c_skip ?_
      refine c_seq ?_
      refine c_seq ?_
      refine c_reg ?_; intro K hK
      refine st rfl rfl rfl (yv_assign rfl rfl) ?_
      refine rg_nil (hK _ ?_)
      obtain ⟨j14, h1, h0⟩ := bind_e h0
      refine c_joinL (fun (a : Unit) (k : Unit) => ⟨kn [(2, boo false)], hk []⟩) (fun a => j14 = .inl a) ?_ ?_
      · intro Q1 jn1 jx1 jr1
        refine c_block ?_; intro Q2 bn2 bx2 br2 bo2
        refine c_loopD (fun (a : Int) (k : Unit) => ⟨kn [(1, .pt 1 v2 0 0), (2, boo false), (3, int (a1.Weights.length : Int)), (4, int a)], hk [(1, ⟨43, 5, true, true, v2, [[int a1.Entities, int a1.Periods, lst 1 fI a1.Weights, lst 1 (fL 1 fI) a1.Methods, lst 1 (fL 1 fI) a1.Costs]]⟩)]⟩) (fun n (a : Int) => d_ref04_Check_L0 a1 n a) (0 : Int) () h1 (fun _ => rfl)
          (leH_kn ⟨⟨_, rfl, (.refl _)⟩, ⟨_, rfl, (.refl _)⟩, ⟨_, rfl, (.refl _)⟩, ⟨_, rfl, (.refl _)⟩, trivial⟩ ⟨⟨_, rfl, (.refl _)⟩, trivial⟩) ?_
        rintro n y1_1 _ hm h1 Q3 ln3 lx3 lr3
        replace h1 : d_ref04_Check_L0 a1 (n + 1) y1_1 = some _ := h1
        rw [d_ref04_Check_L0] at h1
        refine c_show ⟨kn [(1, .pt 1 v2 0 0), (2, boo false), (3, int (a1.Weights.length : Int)), (4, int y1_1)], hk [(1, ⟨43, 5, true, true, v2, [[int a1.Entities, int a1.Periods, lst 1 fI a1.Weights, lst 1 (fL 1 fI) a1.Methods, lst 1 (fL 1 fI) a1.Costs]]⟩)]⟩ ?_
        refine c_seq ?_
        refine c_seq ?_
        refine c_reg ?_; intro K hK
        refine st rfl rfl rfl (yv_move rfl rfl) ?_
        refine st rfl rfl rfl (yv_fieldAddr rfl fo43_0 rfl (.pt rfl rfl rfl) (.pt _ _ _ _ _)) ?_
        refine st rfl rfl rfl (yv_load rfl sh3 rfl (.pt rfl rfl rfl) rfl) ?_
        obtain ⟨x15, e15, h1⟩ := bnd_e h1
        refine st rfl rfl rfl (yv_to (y := boo x15) (yv_lss rfl rfl rfl) (congrArg boo e15)) ?_
        refine rg_nil (hK _ ?_)
        refine c_if (b := x15) rfl ?_ ?_
        · intro hb; subst hb; replace h1 := ct h1
          refine c_skip ?_
          refine c_seq ?_
          refine c_block ?_; intro Q4 bn4 bx4 br4 bo4
          refine c_seq ?_
          obtain ⟨j16, h2, h1⟩ := bind_e h1
          refine c_regL (fun (a : Bool) (k : Unit) => ⟨kn [(1, .pt 1 v2 0 0), (2, boo false), (3, int (a1.Weights.length : Int)), (4, int y1_1), (80, boo a)], hk [(1, ⟨43, 5, true, true, v2, [[int a1.Entities, int a1.Periods, lst 1 fI a1.Weights, lst 1 (fL 1 fI) a1.Methods, lst 1 (fL 1 fI) a1.Costs]]⟩)]⟩) (fun a => a = j16) ?_ ?_
          · intro K hK
            refine st rfl rfl rfl (yv_fieldAddr rfl fo43_3 rfl (.pt rfl rfl rfl) (.pt _ _ _ _ _)) ?_
            refine st rfl rfl rfl (yv_load rfl sh41 rfl (.pt rfl rfl rfl) rfl) ?_
            refine st rfl rfl rfl (yv_move rfl rfl) ?_
            obtain ⟨x17, e17, h2⟩ := bind_e h2
            refine st rfl rfl rfl (yv_ixT rfl Try.underlying41 sh22 rfl rfl e17) ?_
            refine st rfl rfl rfl (yv_load rfl sh22 rfl (.pp _) rfl) ?_
            refine st rfl rfl rfl (yv_move rfl rfl) ?_
            obtain ⟨x18, e18, h2⟩ := bind_e h2
            refine st rfl rfl rfl (yv_callP rfl rfl (.cons rfl (.cons rfl (.cons rfl (.cons rfl .nil)))) cal55 (CvL.refl _) (d_ref04_all_c e18)) ?_
            obtain ⟨x19, e19, h2⟩ := bnd_e h2
            refine st rfl rfl rfl (yv_not rfl rfl e19) ?_
            refine st rfl rfl rfl (yv_move rfl rfl) ?_
            refine scases 71 rfl ?_ ?_
            · intro hb; subst hb; replace h2 := ct h2
              refine sk rfl rfl rfl ?_
              refine sk rfl rfl rfl ?_
              refine sk rfl rfl rfl ?_
              refine sk rfl rfl rfl ?_
              refine sk rfl rfl rfl ?_
              refine sk rfl rfl rfl ?_
              refine sk rfl rfl rfl ?_
              refine sk rfl rfl rfl ?_
              refine st rfl rfl rfl (yv_pick rfl rfl (fun _ => rfl) (fun _ => rfl) rfl) ?_
              obtain rfl := nxt_e h2
              refine rg_nil (hK _ ⟨true, (), rfl, leH_kn ⟨⟨_, rfl, (.refl _)⟩, ⟨_, rfl, (.refl _)⟩, ⟨_, rfl, (.refl _)⟩, ⟨_, rfl, (.refl _)⟩, ⟨_, rfl, (.refl _)⟩, trivial⟩ ⟨⟨_, rfl, (.refl _)⟩, trivial⟩⟩)
            · intro hb; subst hb; replace h2 := cf h2
              refine st rfl rfl rfl (yv_fieldAddr rfl fo43_4 rfl (.pt rfl rfl rfl) (.pt _ _ _ _ _)) ?_
              refine st rfl rfl rfl (yv_load rfl sh41 rfl (.pt rfl rfl rfl) rfl) ?_
              refine st rfl rfl rfl (yv_move rfl rfl) ?_
              obtain ⟨x20, e20, h2⟩ := bind_e h2
              refine st rfl rfl rfl (yv_ixT rfl Try.underlying41 sh22 rfl rfl e20) ?_
              refine st rfl rfl rfl (yv_load rfl sh22 rfl (.pp _) rfl) ?_
              refine st rfl rfl rfl (yv_move rfl rfl) ?_
              obtain ⟨x21, e21, h2⟩ := bind_e h2
              refine st rfl rfl rfl (yv_callP rfl rfl (.cons rfl (.cons rfl (.cons rfl (.cons rfl .nil)))) cal55 (CvL.refl _) (d_ref04_all_c e21)) ?_
              obtain ⟨x22, e22, h2⟩ := bnd_e h2
              refine st rfl rfl rfl (yv_not rfl rfl e22) ?_
              refine st rfl rfl rfl (yv_pick rfl rfl (fun _ => rfl) (fun _ => rfl) rfl) ?_
              obtain rfl := nxt_e h2
              refine rg_nil (hK _ ⟨x22, (), rfl, leH_kn ⟨⟨_, rfl, (.refl _)⟩, ⟨_, rfl, (.refl _)⟩, ⟨_, rfl, (.refl _)⟩, ⟨_, rfl, (.refl _)⟩, ⟨_, rfl, (.refl _)⟩, trivial⟩ ⟨⟨_, rfl, (.refl _)⟩, trivial⟩⟩)
          · rintro y2_1 _ rfl
            refine c_show ⟨kn [(1, .pt 1 v2 0 0), (2, boo false), (3, int (a1.Weights.length : Int)), (4, int y1_1), (80, boo y2_1)], hk [(1, ⟨43, 5, true, true, v2, [[int a1.Entities, int a1.Periods, lst 1 fI a1.Weights, lst 1 (fL 1 fI) a1.Methods, lst 1 (fL 1 fI) a1.Costs]]⟩)]⟩ ?_
            refine c_if (b := y2_1) rfl ?_ ?_
            · intro hb; subst hb; replace h1 := ct h1
              refine c_seq ?_
              refine c_reg ?_; intro K hK
              refine st rfl rfl rfl (yv_assign rfl rfl) ?_
              refine rg_nil (hK _ ?_)
              obtain ⟨c23, hX, hj⟩ := esc_e h1; subst hj; replace h0 := hX.trans (sel_r h0)
              obtain rfl := nxt_e h0
              refine c_ret (br4 _ (lr3 _ (br2 _ (jr1 _ (hret _ _ _ (.tmp rfl .nil) (fun _ _ h => h) ?_)))))
              exact .refl _
            · intro hb; subst hb; replace h1 := cf h1
              refine c_skip ?_
              refine c_nil (bn4 _ ?_)
              refine c_reg ?_; intro K hK
              refine st rfl rfl rfl (yv_move rfl rfl) ?_
              obtain ⟨x24, e24, h1⟩ := bnd_e h1
              refine st rfl rfl rfl (yv_add rfl rfl rfl e24) ?_
              refine st rfl rfl rfl (yv_assign rfl rfl) ?_
              refine rg_nil (hK _ ?_)
              refine c_nil (ln3 _ ⟨x24, (), h1, leH_kn ⟨⟨_, rfl, (.refl _)⟩, ⟨_, rfl, (.refl _)⟩, ⟨_, rfl, (.refl _)⟩, ⟨_, rfl, (.refl _)⟩, trivial⟩ ⟨⟨_, rfl, (.refl _)⟩, trivial⟩⟩)
        · intro hb; subst hb; replace h1 := cf h1
          refine c_exit (lx3 _ _ (bx2 _ ?_))
          obtain rfl := brk_e h1
          refine c_nil (jn1 _ ⟨(), (), rfl, leH_kn ⟨⟨_, rfl, (.refl _)⟩, trivial⟩ trivial⟩)
      · rintro _ _ rfl
        replace h0 := sel_l h0
        refine c_show ⟨kn [(2, boo false)], hk []⟩ ?_
        refine c_seq ?_
        refine c_reg ?_; intro K hK
        refine st rfl rfl rfl (yv_assign rfl rfl) ?_
        refine rg_nil (hK _ ?_)
        obtain rfl := nxt_e h0
        refine c_ret (hret _ _ _ (.tmp rfl .nil) (fun _ _ h => h) ?_)
        exact .refl _
def d_ref04_Start_L1 (a1 : GMaster) : Nat → Int → (List Int) → Option ((List Int))
  | 0, _, _ => none
  | n + 1, y1_1, y1_2 =>
    bnd (decide (y1_1 < (a1.Weights.length : Int))) fun (x29 : Bool) =>
    cond x29 ((ix y1_2 y1_1).bind fun (x30 : Int) =>
    bnd (y1_2.set (Int.toNat y1_1) ((-1) : Int)) fun (x31 : List Int) =>
    bnd (w64 (y1_1 + 1)) fun (x32 : Int) =>
    d_ref04_Start_L1 a1 n (x32 : Int) (x31 : List Int)) (some (y1_2 : List Int))
def d_ref04_Start_L0 (a1 : GMaster) : Nat → Int → (List GEnt) → Option ((List GEnt))
  | 0, _, _ => none
  | n + 1, y0_1, y0_3 =>
    bnd (decide (y0_1 < a1.Entities)) fun (x9 : Bool) =>
    cond x9 ((show Option ((List GEnt)) from
    bnd (w64 ((a1.Weights.length : Int) * 2)) fun (x11 : Int) =>
    asrt ((0 : Int) ≤ x11 ∧ (x11 : Int) ≤ 1048576) <|
    bnd (List.replicate (Int.toNat x11) ((⟨[], (⟨0, 0, 0⟩ : A3_Int)⟩ : GPool) : GPool)) fun (x13 : List GPool) =>
    asrt ((0 : Int) ≤ 17 ∧ (17 : Int) ≤ 1048576) <|
    bnd (List.replicate (Int.toNat 17) (0 : Int)) fun (x16 : List Int) =>
    asrt ((0 : Int) ≤ (a1.Weights.length : Int) ∧ ((a1.Weights.length : Int) : Int) ≤ 1048576) <|
    bnd (List.replicate (Int.toNat (a1.Weights.length : Int)) ((⟨0, 0, 0, 0, 0, 0, 0, 0, 0, 0, 0⟩ : GRoll) : GRoll)) fun (x19 : List GRoll) =>
    asrt ((0 : Int) ≤ (a1.Weights.length : Int) ∧ ((a1.Weights.length : Int) : Int) ≤ 1048576) <|
    bnd (List.replicate (Int.toNat (a1.Weights.length : Int)) (0 : Int)) fun (x22 : List Int) =>
    asrt ((0 : Int) ≤ (a1.Weights.length : Int) ∧ ((a1.Weights.length : Int) : Int) ≤ 1048576) <|
    bnd (List.replicate (Int.toNat (a1.Weights.length : Int)) (0 : Int)) fun (x25 : List Int) =>
    (show Option ((List Int)) from
    d_ref04_Start_L1 a1 n (0 : Int) (x22 : List Int)).bind <| fun (y2_1 : List Int) =>
    bnd (y0_3 ++ [(⟨1, false, x13, x16, x19, y2_1, x25, []⟩ : GEnt)]) fun (x33 : List GEnt) =>
    asrt (x33.length ≤ 68719476736) <|
    some (x33 : List GEnt)).bind <| fun (y3_2 : List GEnt) =>
    bnd (w64 (y0_1 + 1)) fun (x36 : Int) =>
    d_ref04_Start_L0 a1 n (x36 : Int) (y3_2 : List GEnt)) (some (y0_3 : List GEnt))
def d_ref04_Start (n : Nat) (a1 : GMaster) : Option (GState × Int) :=
(d_ref04_Check n a1).bind fun (x4 : Bool) =>
bnd (!x4) fun (x5 : Bool) =>
cond x5 (some (((⟨(⟨0, 0, [], [], []⟩ : GMaster), [], [], [], [], 0⟩ : GState) : GState), (1 : Int))) ((show Option ((List GEnt)) from
d_ref04_Start_L0 a1 n (0 : Int) (([] : List GEnt) : List GEnt)).bind <| fun (y4_2 : List GEnt) =>
some (((⟨a1, y4_2, [], [], [], 0⟩ : GState) : GState), (0 : Int)))
theorem d_ref04_Start_c {n : Nat} {a1 : GMaster} {r : GState × Int} (h0 : d_ref04_Start n a1 = some r) : PP Try.prog 29 [.agg (GMaster.av a1)] (fun y => y = .tup [.agg (GState.av r.1), int r.2]) := by
  unfold d_ref04_Start at h0
  refine pp_of_pc (R0 := fun y H => Cv (frzH H) y (.tup [.agg (GState.av r.1), int r.2])) ?_ (fun y H hc => ⟨_, rfl, .tup (pvl2 ((fun (a : GState) => PV.agg (GState.pvc a)) (r.1)) (pvI (r.2))), hc⟩)
  refine pc_of' (c := _) Try.func29 rfl rfl ?_; intro Q hret hnorm
  refine c_seq ?_
  refine c_reg ?_; intro K hK
  refine se rfl rfl rfl (yl_box 1 .any rfl rfl rfl) ?_; rintro _ _ ⟨v2, -, rfl, rfl⟩
  refine se rfl rfl rfl (yl_alloc 2 .any rfl z53 rfl) ?_; rintro _ _ ⟨v3, -, rfl, rfl⟩
  refine st rfl rfl rfl (yv_assign rfl rfl) ?_
  refine rg_nil (hK _ ?_)
  refine c_seq ?_
  refine c_seq ?_
  refine c_reg ?_; intro K hK
  refine st rfl rfl rfl (yv_load rfl sh43 rfl (.pt rfl rfl rfl) rfl) ?_
  obtain ⟨x4, e4, h0⟩ := bind_e h0
  refine st rfl rfl rfl (yv_callP rfl rfl (.cons rfl .nil) cal31 (CvL.refl _) (d_ref04_Check_c e4)) ?_
  obtain ⟨x5, e5, h0⟩ := bnd_e h0
  refine st rfl rfl rfl (yv_not rfl rfl e5) ?_
  refine rg_nil (hK _ ?_)
  refine c_if (b := x5) rfl ?_ ?_
  · intro hb; subst hb; replace h0 := ct h0
    refine c_seq ?_
    refine c_reg ?_; intro K hK
    refine st rfl rfl rfl (yv_build (cs := [int 0, int 0, .sc (.slice none 0 0), .sc (.slice none 0 0), .sc (.slice none 0 0), .sc (.slice none 0 0), .sc (.slice none 0 0), .sc (.slice none 0 0), .sc (.slice none 0 0), int 0]) (ps := []) rfl pl53 z53 rfl .nil (by kernel_rfl)) ?_
    refine sstore rfl rfl (yl_ob (ob' := (⟨53, 10, true, true, v3, [[int 0, int 0, .sc (.slice none 0 0), .sc (.slice none 0 0), .sc (.slice none 0 0), .sc (.slice none 0 0), .sc (.slice none 0 0), .sc (.slice none 0 0), .sc (.slice none 0 0), int 0]]⟩ : AObj)) (yl_store rfl sh53 rfl rfl rfl rfl rfl rfl rfl rfl rfl) rfl) ?_
    refine st rfl rfl rfl (yv_assign rfl rfl) ?_
    refine rg_nil (hK _ ?_)
    obtain rfl := nxt_e h0
    refine c_ret (hret _ _ _ (.cell rfl (.pt rfl rfl rfl) sh53 rfl (.tmp rfl .nil)) (fun _ _ h => h) ?_)
    exact CvL.tup (.cons (CvL.agg (.cons (.refl _) (.cons (.refl _) (.cons (.nil _) (.cons (.nil _) (.cons (.nil _) (.cons (.nil _) (.cons (.nil _) (.cons (.nil _) (.cons (.nil _) (.cons (.refl _) .nil))))))))))) (.cons (.refl _) .nil))
  · intro hb; subst hb; replace h0 := cf h0
    refine c_skip ?_
    refine c_seq ?_
    refine c_reg ?_; intro K hK
    refine st rfl rfl rfl (yv_load rfl sh43 rfl (.pt rfl rfl rfl) rfl) ?_
    refine st rfl rfl rfl (yv_build (cs := [int a1.Entities, int a1.Periods, lst 1 fI a1.Weights, lst 1 (fL 1 fI) a1.Methods, lst 1 (fL 1 fI) a1.Costs, .sc (.slice none 0 0), .sc (.slice none 0 0), .sc (.slice none 0 0), .sc (.slice none 0 0), int 0]) (ps := [(0, _)]) rfl pl53 z53 rfl (.cons rfl .nil) (by kernel_rfl)) ?_
    refine se rfl rfl rfl (yl_alloc 3 .any rfl z53 rfl) ?_; rintro _ _ ⟨v6, -, rfl, rfl⟩
    refine sstore rfl rfl (yl_ob (ob' := (⟨53, 10, true, true, v6, [[int a1.Entities, int a1.Periods, lst 1 fI a1.Weights, lst 1 (fL 1 fI) a1.Methods, lst 1 (fL 1 fI) a1.Costs, .sc (.slice none 0 0), .sc (.slice none 0 0), .sc (.slice none 0 0), .sc (.slice none 0 0), int 0]]⟩ : AObj)) (yl_store rfl sh53 rfl rfl rfl rfl rfl rfl rfl rfl rfl) rfl) ?_
    refine rg_nil (hK _ ?_)
    refine c_seq ?_
    refine c_reg ?_; intro K hK
    refine st rfl rfl rfl (yv_fieldAddr rfl fo43_2 rfl (.pt rfl rfl rfl) (.pt _ _ _ _ _)) ?_
    refine st rfl rfl rfl (yv_load rfl sh22 rfl (.pt rfl rfl rfl) rfl) ?_
    refine st rfl rfl rfl (yv_len_sl rfl Try.underlying22 rfl (lst_len _)) ?_
    refine st rfl rfl rfl (yv_assign rfl rfl) ?_
    refine rg_nil (hK _ ?_)
    refine c_seq ?_
    refine c_seq ?_
    refine c_reg ?_; intro K hK
    refine st rfl rfl rfl (yv_assign rfl rfl) ?_
    refine rg_nil (hK _ ?_)
    obtain ⟨j7, h1, h0⟩ := bind_e h0
    refine c_joinL (fun (a : (List GEnt)) (k : Nat) => ⟨kn [(2, .pt 2 v3 0 0), (3, int 0), (4, .pt 3 v6 0 0)], hk [(2, ⟨53, 10, true, true, v3, [[int 0, int 0, .sc (.slice none 0 0), .sc (.slice none 0 0), .sc (.slice none 0 0), .sc (.slice none 0 0), .sc (.slice none 0 0), .sc (.slice none 0 0), .sc (.slice none 0 0), int 0]]⟩), (3, ⟨53, 10, true, true, v6, [[int a1.Entities, int a1.Periods, lst 1 fI a1.Weights, lst 1 (fL 1 fI) a1.Methods, lst 1 (fL 1 fI) a1.Costs, .sl 4 k 0 a.length, .sc (.slice none 0 0), .sc (.slice none 0 0), .sc (.slice none 0 0), int 0]]⟩), (4, ⟨66, 8, true, true, k, a.map GEnt.av⟩)]⟩) (fun a => a = j7) ?_ ?_
    · intro Q1 jn1 jx1 jr1
      refine c_block ?_; intro Q2 bn2 bx2 br2 bo2
      refine c_nilcell 3 0 5 4 66 8 (rows := fun v8 => [[int a1.Entities, int a1.Periods, lst 1 fI a1.Weights, lst 1 (fL 1 fI) a1.Methods, lst 1 (fL 1 fI) a1.Costs, .sl 4 v8 0 0, .sc (.slice none 0 0), .sc (.slice none 0 0), .sc (.slice none 0 0), int 0]]) rfl rfl rfl rfl (fun _ => rfl) ?_; intro v8
      refine c_loopD (fun (a : Int × (List GEnt)) (k : Nat) => ⟨kn [(1, .pt 1 v2 0 0), (2, .pt 2 v3 0 0), (3, int 0), (4, .pt 3 v6 0 0), (5, int (a1.Weights.length : Int)), (6, int a.1)], hk [(1, ⟨43, 5, true, true, v2, [[int a1.Entities, int a1.Periods, lst 1 fI a1.Weights, lst 1 (fL 1 fI) a1.Methods, lst 1 (fL 1 fI) a1.Costs]]⟩), (2, ⟨53, 10, true, true, v3, [[int 0, int 0, .sc (.slice none 0 0), .sc (.slice none 0 0), .sc (.slice none 0 0), .sc (.slice none 0 0), .sc (.slice none 0 0), .sc (.slice none 0 0), .sc (.slice none 0 0), int 0]]⟩), (3, ⟨53, 10, true, true, v6, [[int a1.Entities, int a1.Periods, lst 1 fI a1.Weights, lst 1 (fL 1 fI) a1.Methods, lst 1 (fL 1 fI) a1.Costs, .sl 4 k 0 a.2.length, .sc (.slice none 0 0), .sc (.slice none 0 0), .sc (.slice none 0 0), int 0]]⟩), (4, ⟨66, 8, true, true, k, a.2.map GEnt.av⟩)]⟩) (fun n (a : Int × (List GEnt)) => d_ref04_Start_L0 a1 n a.1 a.2) ((0 : Int), (([] : List GEnt) : List GEnt)) v8 h1 (fun _ => rfl)
        (leH_kn ⟨⟨_, rfl, (.refl _)⟩, ⟨_, rfl, (.refl _)⟩, ⟨_, rfl, (.refl _)⟩, ⟨_, rfl, (.refl _)⟩, ⟨_, rfl, (.refl _)⟩, ⟨_, rfl, (.refl _)⟩, trivial⟩ ⟨⟨_, rfl, (.refl _)⟩, ⟨_, rfl, (.refl _)⟩, ⟨_, rfl, (.refl _)⟩, ⟨_, rfl, (.refl _)⟩, trivial⟩) ?_
      rintro n ⟨y0_1, y0_3⟩ w0_2 hm h1 Q3 ln3 lx3 lr3
      replace h1 : d_ref04_Start_L0 a1 (n + 1) y0_1 y0_3 = some _ := h1
      rw [d_ref04_Start_L0] at h1
      refine c_show ⟨kn [(1, .pt 1 v2 0 0), (2, .pt 2 v3 0 0), (3, int 0), (4, .pt 3 v6 0 0), (5, int (a1.Weights.length : Int)), (6, int y0_1)], hk [(1, ⟨43, 5, true, true, v2, [[int a1.Entities, int a1.Periods, lst 1 fI a1.Weights, lst 1 (fL 1 fI) a1.Methods, lst 1 (fL 1 fI) a1.Costs]]⟩), (2, ⟨53, 10, true, true, v3, [[int 0, int 0, .sc (.slice none 0 0), .sc (.slice none 0 0), .sc (.slice none 0 0), .sc (.slice none 0 0), .sc (.slice none 0 0), .sc (.slice none 0 0), .sc (.slice none 0 0), int 0]]⟩), (3, ⟨53, 10, true, true, v6, [[int a1.Entities, int a1.Periods, lst 1 fI a1.Weights, lst 1 (fL 1 fI) a1.Methods, lst 1 (fL 1 fI) a1.Costs, .sl 4 w0_2 0 y0_3.length, .sc (.slice none 0 0), .sc (.slice none 0 0), .sc (.slice none 0 0), int 0]]⟩), (4, ⟨66, 8, true, true, w0_2, y0_3.map GEnt.av⟩)]⟩ ?_
      refine c_seq ?_
      refine c_seq ?_
      refine c_reg ?_; intro K hK
      refine st rfl rfl rfl (yv_move rfl rfl) ?_
      refine st rfl rfl rfl (yv_fieldAddr rfl fo43_0 rfl (.pt rfl rfl rfl) (.pt _ _ _ _ _)) ?_
      refine st rfl rfl rfl (yv_load rfl sh3 rfl (.pt rfl rfl rfl) rfl) ?_
      obtain ⟨x9, e9, h1⟩ := bnd_e h1
      refine st rfl rfl rfl (yv_to (y := boo x9) (yv_lss rfl rfl rfl) (congrArg boo e9)) ?_
      refine rg_nil (hK _ ?_)
      refine c_if (b := x9) rfl ?_ ?_
      · intro hb; subst hb; replace h1 := ct h1
        refine c_skip ?_
        refine c_seq ?_
        obtain ⟨j10, h2, h1⟩ := bind_e h1
        refine c_joinL (fun (a : (List GEnt)) (k : Nat) => ⟨kn [(1, .pt 1 v2 0 0), (2, .pt 2 v3 0 0), (3, int 0), (4, .pt 3 v6 0 0), (5, int (a1.Weights.length : Int)), (6, int y0_1)], hk [(1, ⟨43, 5, true, true, v2, [[int a1.Entities, int a1.Periods, lst 1 fI a1.Weights, lst 1 (fL 1 fI) a1.Methods, lst 1 (fL 1 fI) a1.Costs]]⟩), (2, ⟨53, 10, true, true, v3, [[int 0, int 0, .sc (.slice none 0 0), .sc (.slice none 0 0), .sc (.slice none 0 0), .sc (.slice none 0 0), .sc (.slice none 0 0), .sc (.slice none 0 0), .sc (.slice none 0 0), int 0]]⟩), (3, ⟨53, 10, true, true, v6, [[int a1.Entities, int a1.Periods, lst 1 fI a1.Weights, lst 1 (fL 1 fI) a1.Methods, lst 1 (fL 1 fI) a1.Costs, .sl 4 k 0 a.length, .sc (.slice none 0 0), .sc (.slice none 0 0), .sc (.slice none 0 0), int 0]]⟩), (4, ⟨66, 8, true, true, k, a.map GEnt.av⟩)]⟩) (fun a => a = j10) ?_ ?_
        · intro Q4 jn4 jx4 jr4
          refine c_block ?_; intro Q5 bn5 bx5 br5 bo5
          refine c_seq ?_
          refine c_draw [0, 1, 3, 0, 0, 16, 0, 64, 0, 256, 1023, 0, 4095] (fun i k => bif Nat.beq i 12 then (Nat.beq k 5 || Nat.beq k 6 || Nat.beq k 7 || Nat.beq k 8 || Nat.beq k 9 || Nat.beq k 10) else false) (fun i => bif Nat.beq i 2 then (some 5) else bif Nat.beq i 3 then (some 6) else bif Nat.beq i 5 then (some 7) else bif Nat.beq i 7 then (some 8) else bif Nat.beq i 9 then (some 9) else bif Nat.beq i 11 then (some 10) else bif Nat.beq i 12 then (some 10) else none) mixed (by kernel_rfl) ?_; intro C K hK
          refine dg_pure rfl (fun H hH => yv_move rfl rfl) ?_
          obtain ⟨x11, e11, h2⟩ := bnd_e h2
          refine dg_pure rfl (fun H hH => yv_mul rfl rfl rfl e11) ?_
          obtain ⟨p12, h2⟩ := asrt_e h2
          obtain ⟨x13, e13, h2⟩ := bnd_e h2
          have lx13 : x13.length = (Int.toNat x11) := by rw [← e13]; exact List.length_replicate
          refine dg_eff rfl rfl (fun H hH => yl_one (yl_make 5 (g := GPool.av) (z0 := ((⟨[], (⟨0, 0, 0⟩ : A3_Int)⟩ : GPool) : GPool)) (.one _) rfl Try.underlying63 bz72 by72 rfl rfl rfl p12 (.cons (.nil _) (.cons (.sc _) (.cons (.sc _) (.cons (.sc _) .nil)))) e13)) ?_; generalize C + 2 = v14
          obtain ⟨p15, h2⟩ := asrt_e h2
          obtain ⟨x16, e16, h2⟩ := bnd_e h2
          have lx16 : x16.length = (Int.toNat 17) := by rw [← e16]; exact List.length_replicate
          refine dg_eff rfl rfl (fun H hH => yl_one (yl_make 6 (g := fI) (z0 := (0 : Int)) (.one _) rfl Try.underlying22 bz3 by3 rfl rfl rfl p15 (.cons (.sc _) .nil) e16)) ?_; generalize C + 3 = v17
          refine dg_pure rfl (fun H hH => yv_move rfl rfl) ?_
          obtain ⟨p18, h2⟩ := asrt_e h2
          obtain ⟨x19, e19, h2⟩ := bnd_e h2
          have lx19 : x19.length = (Int.toNat (a1.Weights.length : Int)) := by rw [← e19]; exact List.length_replicate
          refine dg_eff rfl rfl (fun H hH => yl_one (yl_make 7 (g := GRoll.av) (z0 := ((⟨0, 0, 0, 0, 0, 0, 0, 0, 0, 0, 0⟩ : GRoll) : GRoll)) (.one _) rfl Try.underlying64 bz68 by68 rfl rfl rfl p18 (.cons (.sc _) (.cons (.sc _) (.cons (.sc _) (.cons (.sc _) (.cons (.sc _) (.cons (.sc _) (.cons (.sc _) (.cons (.sc _) (.cons (.sc _) (.cons (.sc _) (.cons (.sc _) .nil))))))))))) e19)) ?_; generalize C + 5 = v20
          refine dg_pure rfl (fun H hH => yv_move rfl rfl) ?_
          obtain ⟨p21, h2⟩ := asrt_e h2
          obtain ⟨x22, e22, h2⟩ := bnd_e h2
          have lx22 : x22.length = (Int.toNat (a1.Weights.length : Int)) := by rw [← e22]; exact List.length_replicate
          refine dg_eff rfl rfl (fun H hH => yl_one (yl_make 8 (g := fI) (z0 := (0 : Int)) (.one _) rfl Try.underlying22 bz3 by3 rfl rfl rfl p21 (.cons (.sc _) .nil) e22)) ?_; generalize C + 7 = v23
          refine dg_pure rfl (fun H hH => yv_move rfl rfl) ?_
          obtain ⟨p24, h2⟩ := asrt_e h2
          obtain ⟨x25, e25, h2⟩ := bnd_e h2
          have lx25 : x25.length = (Int.toNat (a1.Weights.length : Int)) := by rw [← e25]; exact List.length_replicate
          refine dg_eff rfl rfl (fun H hH => yl_one (yl_make 9 (g := fI) (z0 := (0 : Int)) (.one _) rfl Try.underlying22 bz3 by3 rfl rfl rfl p24 (.cons (.sc _) .nil) e25)) ?_; generalize C + 9 = v26
          refine dg_pure rfl (fun H hH => yv_build (cs := [int 1, boo false, .sl 5 v14 0 (Int.toNat x11), .sl 6 v17 0 (Int.toNat 17), .sl 7 v20 0 (Int.toNat (a1.Weights.length : Int)), .sl 8 v23 0 (Int.toNat (a1.Weights.length : Int)), .sl 9 v26 0 (Int.toNat (a1.Weights.length : Int)), .sc (.slice none 0 0)]) (ps := [(0, _), (2, _), (3, _), (4, _), (5, _), (6, _)]) rfl pl66 z66 rfl (.cons rfl (.cons rfl (.cons rfl (.cons rfl (.cons rfl (.cons rfl .nil)))))) (by kernel_rfl)) ?_
          refine dg_eff rfl rfl (fun H hH => yl_alloc1 10 rfl z66 rfl) ?_; generalize C + 11 = v27
          refine dg_store rfl rfl rfl (fun H hH => yl_ob (ob' := (⟨66, 8, true, true, v27, [[int 1, boo false, .sl 5 v14 0 (Int.toNat x11), .sl 6 v17 0 (Int.toNat 17), .sl 7 v20 0 (Int.toNat (a1.Weights.length : Int)), .sl 8 v23 0 (Int.toNat (a1.Weights.length : Int)), .sl 9 v26 0 (Int.toNat (a1.Weights.length : Int)), .sc (.slice none 0 0)]]⟩ : AObj)) (yl_store rfl sh66 rfl rfl ((hH _ rfl).trans rfl) rfl rfl rfl rfl rfl rfl) rfl) ?_
          refine dg_nil (hK _ ?_)
          refine c_seq ?_
          refine c_seq ?_
          refine c_reg ?_; intro K hK
          refine st rfl rfl rfl (yv_assign rfl rfl) ?_
          refine rg_nil (hK _ ?_)
          obtain ⟨j28, h3, h2⟩ := bind_e h2
          refine c_joinL (fun (a : (List Int)) (k : Unit) => ⟨kn [(1, .pt 1 v2 0 0), (2, .pt 2 v3 0 0), (3, int 0), (4, .pt 3 v6 0 0), (5, int (a1.Weights.length : Int)), (6, int y0_1), (7, .pt 10 v27 0 0)], hk [(1, ⟨43, 5, true, true, v2, [[int a1.Entities, int a1.Periods, lst 1 fI a1.Weights, lst 1 (fL 1 fI) a1.Methods, lst 1 (fL 1 fI) a1.Costs]]⟩), (2, ⟨53, 10, true, true, v3, [[int 0, int 0, .sc (.slice none 0 0), .sc (.slice none 0 0), .sc (.slice none 0 0), .sc (.slice none 0 0), .sc (.slice none 0 0), .sc (.slice none 0 0), .sc (.slice none 0 0), int 0]]⟩), (3, ⟨53, 10, true, true, v6, [[int a1.Entities, int a1.Periods, lst 1 fI a1.Weights, lst 1 (fL 1 fI) a1.Methods, lst 1 (fL 1 fI) a1.Costs, .sl 4 w0_2 0 y0_3.length, .sc (.slice none 0 0), .sc (.slice none 0 0), .sc (.slice none 0 0), int 0]]⟩), (4, ⟨66, 8, true, true, w0_2, y0_3.map GEnt.av⟩), (5, ⟨72, 4, true, true, v14, x13.map GPool.av⟩), (6, ⟨3, 1, true, true, v17, x16.map fI⟩), (7, ⟨68, 11, true, true, v20, x19.map GRoll.av⟩), (8, ⟨3, 1, true, true, v23, a.map fI⟩), (9, ⟨3, 1, true, true, v26, x25.map fI⟩), (10, ⟨66, 8, true, true, v27, [[int 1, boo false, .sl 5 v14 0 (Int.toNat x11), .sl 6 v17 0 (Int.toNat 17), .sl 7 v20 0 (Int.toNat (a1.Weights.length : Int)), .sl 8 v23 0 a.length, .sl 9 v26 0 (Int.toNat (a1.Weights.length : Int)), .sc (.slice none 0 0)]]⟩)]⟩) (fun a => a = j28) ?_ ?_
          · intro Q6 jn6 jx6 jr6
            refine c_block ?_; intro Q7 bn7 bx7 br7 bo7
            refine c_loopD (fun (a : Int × (List Int)) (k : Unit) => ⟨kn [(1, .pt 1 v2 0 0), (2, .pt 2 v3 0 0), (3, int 0), (4, .pt 3 v6 0 0), (5, int (a1.Weights.length : Int)), (6, int y0_1), (7, .pt 10 v27 0 0), (8, int a.1)], hk [(1, ⟨43, 5, true, true, v2, [[int a1.Entities, int a1.Periods, lst 1 fI a1.Weights, lst 1 (fL 1 fI) a1.Methods, lst 1 (fL 1 fI) a1.Costs]]⟩), (2, ⟨53, 10, true, true, v3, [[int 0, int 0, .sc (.slice none 0 0), .sc (.slice none 0 0), .sc (.slice none 0 0), .sc (.slice none 0 0), .sc (.slice none 0 0), .sc (.slice none 0 0), .sc (.slice none 0 0), int 0]]⟩), (3, ⟨53, 10, true, true, v6, [[int a1.Entities, int a1.Periods, lst 1 fI a1.Weights, lst 1 (fL 1 fI) a1.Methods, lst 1 (fL 1 fI) a1.Costs, .sl 4 w0_2 0 y0_3.length, .sc (.slice none 0 0), .sc (.slice none 0 0), .sc (.slice none 0 0), int 0]]⟩), (4, ⟨66, 8, true, true, w0_2, y0_3.map GEnt.av⟩), (5, ⟨72, 4, true, true, v14, x13.map GPool.av⟩), (6, ⟨3, 1, true, true, v17, x16.map fI⟩), (7, ⟨68, 11, true, true, v20, x19.map GRoll.av⟩), (8, ⟨3, 1, true, true, v23, a.2.map fI⟩), (9, ⟨3, 1, true, true, v26, x25.map fI⟩), (10, ⟨66, 8, true, true, v27, [[int 1, boo false, .sl 5 v14 0 (Int.toNat x11), .sl 6 v17 0 (Int.toNat 17), .sl 7 v20 0 (Int.toNat (a1.Weights.length : Int)), .sl 8 v23 0 a.2.length, .sl 9 v26 0 (Int.toNat (a1.Weights.length : Int)), .sc (.slice none 0 0)]]⟩)]⟩) (fun n (a : Int × (List Int)) => d_ref04_Start_L1 a1 n a.1 a.2) ((0 : Int), (x22 : List Int)) () h3 (fun _ => rfl)
              (leH_kn ⟨⟨_, rfl, (.refl _)⟩, ⟨_, rfl, (.refl _)⟩, ⟨_, rfl, (.refl _)⟩, ⟨_, rfl, (.refl _)⟩, ⟨_, rfl, (.refl _)⟩, ⟨_, rfl, (.refl _)⟩, ⟨_, rfl, (.refl _)⟩, ⟨_, rfl, (.refl _)⟩, trivial⟩ ⟨⟨_, rfl, (.refl _)⟩, ⟨_, rfl, (.refl _)⟩, ⟨_, rfl, (.refl _)⟩, ⟨_, rfl, (.refl _)⟩, ⟨_, rfl, (.refl _)⟩, ⟨_, rfl, (.refl _)⟩, ⟨_, rfl, (.refl _)⟩, ⟨_, rfl, (.refl _)⟩, ⟨_, rfl, (.refl _)⟩, ⟨_, rfl, ⟨rfl, (.cons (.cons (.refl _) (.cons (.refl _) (.cons (.refl _) (.cons (.refl _) (.cons (.refl _) (.cons (cv_slen (Eq.symm lx22)) (.cons (.refl _) (.cons (.refl _) .nil)))))))) .nil)⟩⟩, trivial⟩) ?_
            rintro n ⟨y1_1, y1_2⟩ _ hm h3 Q8 ln8 lx8 lr8
            replace h3 : d_ref04_Start_L1 a1 (n + 1) y1_1 y1_2 = some _ := h3
            rw [d_ref04_Start_L1] at h3
            refine c_show ⟨kn [(1, .pt 1 v2 0 0), (2, .pt 2 v3 0 0), (3, int 0), (4, .pt 3 v6 0 0), (5, int (a1.Weights.length : Int)), (6, int y0_1), (7, .pt 10 v27 0 0), (8, int y1_1)], hk [(1, ⟨43, 5, true, true, v2, [[int a1.Entities, int a1.Periods, lst 1 fI a1.Weights, lst 1 (fL 1 fI) a1.Methods, lst 1 (fL 1 fI) a1.Costs]]⟩), (2, ⟨53, 10, true, true, v3, [[int 0, int 0, .sc (.slice none 0 0), .sc (.slice none 0 0), .sc (.slice none 0 0), .sc (.slice none 0 0), .sc (.slice none 0 0), .sc (.slice none 0 0), .sc (.slice none 0 0), int 0]]⟩), (3, ⟨53, 10, true, true, v6, [[int a1.Entities, int a1.Periods, lst 1 fI a1.Weights, lst 1 (fL 1 fI) a1.Methods, lst 1 (fL 1 fI) a1.Costs, .sl 4 w0_2 0 y0_3.length, .sc (.slice none 0 0), .sc (.slice none 0 0), .sc (.slice none 0 0), int 0]]⟩), (4, ⟨66, 8, true, true, w0_2, y0_3.map GEnt.av⟩), (5, ⟨72, 4, true, true, v14, x13.map GPool.av⟩), (6, ⟨3, 1, true, true, v17, x16.map fI⟩), (7, ⟨68, 11, true, true, v20, x19.map GRoll.av⟩), (8, ⟨3, 1, true, true, v23, y1_2.map fI⟩), (9, ⟨3, 1, true, true, v26, x25.map fI⟩), (10, ⟨66, 8, true, true, v27, [[int 1, boo false, .sl 5 v14 0 (Int.toNat x11), .sl 6 v17 0 (Int.toNat 17), .sl 7 v20 0 (Int.toNat (a1.Weights.length : Int)), .sl 8 v23 0 y1_2.length, .sl 9 v26 0 (Int.toNat (a1.Weights.length : Int)), .sc (.slice none 0 0)]]⟩)]⟩ ?_
            refine c_seq ?_
            refine c_seq ?_
            refine c_reg ?_; intro K hK
            refine st rfl rfl rfl (yv_move rfl rfl) ?_
            refine st rfl rfl rfl (yv_move rfl rfl) ?_
            obtain ⟨x29, e29, h3⟩ := bnd_e h3
            refine st rfl rfl rfl (yv_to (y := boo x29) (yv_lss rfl rfl rfl) (congrArg boo e29)) ?_
            refine rg_nil (hK _ ?_)
            refine c_if (b := x29) rfl ?_ ?_
            · intro hb; subst hb; replace h3 := ct h3
              refine c_skip ?_
              refine c_seq ?_
              refine c_block ?_; intro Q9 bn9 bx9 br9 bo9
              refine c_reg ?_; intro K hK
              refine st rfl rfl rfl (yv_fieldAddr rfl fo66_5 rfl (.pt rfl rfl rfl) (.pt _ _ _ _ _)) ?_
              refine st rfl rfl rfl (yv_load rfl sh22 rfl (.pt rfl rfl rfl) rfl) ?_
              refine st rfl rfl rfl (yv_move rfl rfl) ?_
              obtain ⟨x30, e30, h3⟩ := bind_e h3
              refine st rfl rfl rfl (yv_ixO rfl Try.underlying22 sh3 rfl rfl rfl rfl rfl (Eq.symm rfl) (List.length_map _) e30) ?_
              obtain ⟨x31, e31, h3⟩ := bnd_e h3
              have fx31 := ix_set e30 e31; have lx31 := len_setV e31 (rfl : y1_2.length = y1_2.length)
              refine sstore rfl rfl (yl_ob (ob' := (⟨3, 1, true, true, v23, x31.map fI⟩ : AObj)) (yl_store rfl sh3 rfl rfl rfl rfl rfl (ix_get e30) rfl rfl rfl) (ob_eq (map_setV e31))) ?_
              refine rg_nil (hK _ ?_)
              refine c_nil (bn9 _ ?_)
              refine c_reg ?_; intro K hK
              refine st rfl rfl rfl (yv_move rfl rfl) ?_
              obtain ⟨x32, e32, h3⟩ := bnd_e h3
              refine st rfl rfl rfl (yv_add rfl rfl rfl e32) ?_
              refine st rfl rfl rfl (yv_assign rfl rfl) ?_
              refine rg_nil (hK _ ?_)
              refine c_nil (ln8 _ ⟨(x32, x31), (), h3, leH_kn ⟨⟨_, rfl, (.refl _)⟩, ⟨_, rfl, (.refl _)⟩, ⟨_, rfl, (.refl _)⟩, ⟨_, rfl, (.refl _)⟩, ⟨_, rfl, (.refl _)⟩, ⟨_, rfl, (.refl _)⟩, ⟨_, rfl, (.refl _)⟩, ⟨_, rfl, (.refl _)⟩, trivial⟩ ⟨⟨_, rfl, (.refl _)⟩, ⟨_, rfl, (.refl _)⟩, ⟨_, rfl, (.refl _)⟩, ⟨_, rfl, (.refl _)⟩, ⟨_, rfl, (.refl _)⟩, ⟨_, rfl, (.refl _)⟩, ⟨_, rfl, (.refl _)⟩, ⟨_, rfl, (.refl _)⟩, ⟨_, rfl, (.refl _)⟩, ⟨_, rfl, ⟨rfl, (.cons (.cons (.refl _) (.cons (.refl _) (.cons (.refl _) (.cons (.refl _) (.cons (.refl _) (.cons (cv_slen (Eq.symm lx31)) (.cons (.refl _) (.cons (.refl _) .nil)))))))) .nil)⟩⟩, trivial⟩⟩)
            · intro hb; subst hb; replace h3 := cf h3
              refine c_exit (lx8 _ _ (bx7 _ ?_))
              obtain rfl := nxt_e h3
              refine c_nil (jn6 _ ⟨y1_2, (), rfl, leH_kn ⟨⟨_, rfl, (.refl _)⟩, ⟨_, rfl, (.refl _)⟩, ⟨_, rfl, (.refl _)⟩, ⟨_, rfl, (.refl _)⟩, ⟨_, rfl, (.refl _)⟩, ⟨_, rfl, (.refl _)⟩, ⟨_, rfl, (.refl _)⟩, trivial⟩ ⟨⟨_, rfl, (.refl _)⟩, ⟨_, rfl, (.refl _)⟩, ⟨_, rfl, (.refl _)⟩, ⟨_, rfl, (.refl _)⟩, ⟨_, rfl, (.refl _)⟩, ⟨_, rfl, (.refl _)⟩, ⟨_, rfl, (.refl _)⟩, ⟨_, rfl, (.refl _)⟩, ⟨_, rfl, (.refl _)⟩, ⟨_, rfl, (.refl _)⟩, trivial⟩⟩)
          · rintro y2_1 _ rfl
            refine c_show ⟨kn [(1, .pt 1 v2 0 0), (2, .pt 2 v3 0 0), (3, int 0), (4, .pt 3 v6 0 0), (5, int (a1.Weights.length : Int)), (6, int y0_1), (7, .pt 10 v27 0 0)], hk [(1, ⟨43, 5, true, true, v2, [[int a1.Entities, int a1.Periods, lst 1 fI a1.Weights, lst 1 (fL 1 fI) a1.Methods, lst 1 (fL 1 fI) a1.Costs]]⟩), (2, ⟨53, 10, true, true, v3, [[int 0, int 0, .sc (.slice none 0 0), .sc (.slice none 0 0), .sc (.slice none 0 0), .sc (.slice none 0 0), .sc (.slice none 0 0), .sc (.slice none 0 0), .sc (.slice none 0 0), int 0]]⟩), (3, ⟨53, 10, true, true, v6, [[int a1.Entities, int a1.Periods, lst 1 fI a1.Weights, lst 1 (fL 1 fI) a1.Methods, lst 1 (fL 1 fI) a1.Costs, .sl 4 w0_2 0 y0_3.length, .sc (.slice none 0 0), .sc (.slice none 0 0), .sc (.slice none 0 0), int 0]]⟩), (4, ⟨66, 8, true, true, w0_2, y0_3.map GEnt.av⟩), (5, ⟨72, 4, true, true, v14, x13.map GPool.av⟩), (6, ⟨3, 1, true, true, v17, x16.map fI⟩), (7, ⟨68, 11, true, true, v20, x19.map GRoll.av⟩), (8, ⟨3, 1, true, true, v23, y2_1.map fI⟩), (9, ⟨3, 1, true, true, v26, x25.map fI⟩), (10, ⟨66, 8, true, true, v27, [[int 1, boo false, .sl 5 v14 0 (Int.toNat x11), .sl 6 v17 0 (Int.toNat 17), .sl 7 v20 0 (Int.toNat (a1.Weights.length : Int)), .sl 8 v23 0 y2_1.length, .sl 9 v26 0 (Int.toNat (a1.Weights.length : Int)), .sc (.slice none 0 0)]]⟩)]⟩ ?_
            refine c_reg ?_; intro K hK
            refine st rfl rfl rfl (yv_fieldAddr rfl fo53_1 rfl (.pt rfl rfl rfl) (.pt _ _ _ _ _)) ?_
            refine st rfl rfl rfl (yv_load rfl sh48 rfl (.pt rfl rfl rfl) rfl) ?_
            refine st rfl rfl rfl (yv_load rfl sh66 rfl (.pt rfl rfl rfl) rfl) ?_
            refine st rfl rfl rfl (yv_buildSlice (ps := [(0, _)]) (rows := [[int 1, boo false, .sl 5 v14 0 (Int.toNat x11), .sl 6 v17 0 (Int.toNat 17), .sl 7 v20 0 (Int.toNat (a1.Weights.length : Int)), .sl 8 v23 0 y2_1.length, .sl 9 v26 0 (Int.toNat (a1.Weights.length : Int)), .sc (.slice none 0 0)]]) rfl Try.underlying48 bz66 (.cons rfl .nil) (by kernel_rfl) rfl rfl rfl) ?_
            obtain ⟨x33, e33, h2⟩ := bnd_e h2
            obtain ⟨p34, h2⟩ := asrt_e h2
            refine se rfl rfl rfl (Yield.frz 5 rfl (Yield.frz 6 rfl (Yield.frz 7 rfl (Yield.frz 8 rfl (Yield.frz 9 rfl (yl_appT (g := GEnt.av) (l := y0_3) (m := [(⟨1, false, x13, x16, x19, y2_1, x25, []⟩ : GEnt)]) .any rfl Try.underlying48 bz66 by66 rfl rfl rfl rfl rfl rfl rfl rfl rfl rfl (Eq.symm rfl) (CvLL.list (.cons (.cons (.refl _) (.cons (.refl _) (.cons (cv_lst rfl rfl rfl rfl rfl (Eq.symm lx13)) (.cons (cv_lst rfl rfl rfl rfl rfl (Eq.symm lx16)) (.cons (cv_lst rfl rfl rfl rfl rfl (Eq.symm lx19)) (.cons (cv_lst rfl rfl rfl rfl rfl (Eq.symm rfl)) (.cons (cv_lst rfl rfl rfl rfl rfl (Eq.symm lx25)) (.cons (.nil _) .nil)))))))) .nil)) GEnt.one e33 p34)))))) ?_; rintro _ _ ⟨v35, -, rfl, rfl⟩
            refine st rfl rfl rfl (yv_fieldAddr rfl fo53_1 rfl (.pt rfl rfl rfl) (.pt _ _ _ _ _)) ?_
            refine sstore rfl rfl (yl_ob (ob' := (⟨53, 10, true, true, v6, [[int a1.Entities, int a1.Periods, lst 1 fI a1.Weights, lst 1 (fL 1 fI) a1.Methods, lst 1 (fL 1 fI) a1.Costs, .sl 4 v35 0 x33.length, .sc (.slice none 0 0), .sc (.slice none 0 0), .sc (.slice none 0 0), int 0]]⟩ : AObj)) (yl_store rfl sh48 rfl rfl rfl rfl rfl rfl rfl rfl rfl) rfl) ?_
            refine rg_nil (hK _ ?_)
            refine c_nil (bn5 _ ?_)
            obtain rfl := nxt_e h2
            refine c_nil (jn4 _ ⟨x33, v35, rfl, leH_kn ⟨⟨_, rfl, (.refl _)⟩, ⟨_, rfl, (.refl _)⟩, ⟨_, rfl, (.refl _)⟩, ⟨_, rfl, (.refl _)⟩, ⟨_, rfl, (.refl _)⟩, ⟨_, rfl, (.refl _)⟩, trivial⟩ ⟨⟨_, rfl, (.refl _)⟩, ⟨_, rfl, (.refl _)⟩, ⟨_, rfl, (.refl _)⟩, ⟨_, rfl, (.refl _)⟩, trivial⟩⟩)
        · rintro y3_2 w3_1 rfl
          refine c_show ⟨kn [(1, .pt 1 v2 0 0), (2, .pt 2 v3 0 0), (3, int 0), (4, .pt 3 v6 0 0), (5, int (a1.Weights.length : Int)), (6, int y0_1)], hk [(1, ⟨43, 5, true, true, v2, [[int a1.Entities, int a1.Periods, lst 1 fI a1.Weights, lst 1 (fL 1 fI) a1.Methods, lst 1 (fL 1 fI) a1.Costs]]⟩), (2, ⟨53, 10, true, true, v3, [[int 0, int 0, .sc (.slice none 0 0), .sc (.slice none 0 0), .sc (.slice none 0 0), .sc (.slice none 0 0), .sc (.slice none 0 0), .sc (.slice none 0 0), .sc (.slice none 0 0), int 0]]⟩), (3, ⟨53, 10, true, true, v6, [[int a1.Entities, int a1.Periods, lst 1 fI a1.Weights, lst 1 (fL 1 fI) a1.Methods, lst 1 (fL 1 fI) a1.Costs, .sl 4 w3_1 0 y3_2.length, .sc (.slice none 0 0), .sc (.slice none 0 0), .sc (.slice none 0 0), int 0]]⟩), (4, ⟨66, 8, true, true, w3_1, y3_2.map GEnt.av⟩)]⟩ ?_
          refine c_reg ?_; intro K hK
          refine st rfl rfl rfl (yv_move rfl rfl) ?_
          obtain ⟨x36, e36, h1⟩ := bnd_e h1
          refine st rfl rfl rfl (yv_add rfl rfl rfl e36) ?_
          refine st rfl rfl rfl (yv_assign rfl rfl) ?_
          refine rg_nil (hK _ ?_)
          refine c_nil (ln3 _ ⟨(x36, y3_2), w3_1, h1, leH_kn ⟨⟨_, rfl, (.refl _)⟩, ⟨_, rfl, (.refl _)⟩, ⟨_, rfl, (.refl _)⟩, ⟨_, rfl, (.refl _)⟩, ⟨_, rfl, (.refl _)⟩, ⟨_, rfl, (.refl _)⟩, trivial⟩ ⟨⟨_, rfl, (.refl _)⟩, ⟨_, rfl, (.refl _)⟩, ⟨_, rfl, (.refl _)⟩, ⟨_, rfl, (.refl _)⟩, trivial⟩⟩)
      · intro hb; subst hb; replace h1 := cf h1
        refine c_exit (lx3 _ _ (bx2 _ ?_))
        obtain rfl := nxt_e h1
        refine c_nil (jn1 _ ⟨y0_3, w0_2, rfl, leH_kn ⟨⟨_, rfl, (.refl _)⟩, ⟨_, rfl, (.refl _)⟩, ⟨_, rfl, (.refl _)⟩, trivial⟩ ⟨⟨_, rfl, (.refl _)⟩, ⟨_, rfl, (.refl _)⟩, ⟨_, rfl, (.refl _)⟩, trivial⟩⟩)
    · rintro y4_2 w4_1 rfl
      refine c_show ⟨kn [(2, .pt 2 v3 0 0), (3, int 0), (4, .pt 3 v6 0 0)], hk [(2, ⟨53, 10, true, true, v3, [[int 0, int 0, .sc (.slice none 0 0), .sc (.slice none 0 0), .sc (.slice none 0 0), .sc (.slice none 0 0), .sc (.slice none 0 0), .sc (.slice none 0 0), .sc (.slice none 0 0), int 0]]⟩), (3, ⟨53, 10, true, true, v6, [[int a1.Entities, int a1.Periods, lst 1 fI a1.Weights, lst 1 (fL 1 fI) a1.Methods, lst 1 (fL 1 fI) a1.Costs, .sl 4 w4_1 0 y4_2.length, .sc (.slice none 0 0), .sc (.slice none 0 0), .sc (.slice none 0 0), int 0]]⟩), (4, ⟨66, 8, true, true, w4_1, y4_2.map GEnt.av⟩)]⟩ ?_
      refine c_seq ?_
      refine c_reg ?_; intro K hK
      refine st rfl rfl rfl (yv_load rfl sh53 rfl (.pt rfl rfl rfl) rfl) ?_
      refine sstore rfl rfl (yl_ob (ob' := (⟨53, 10, true, true, v3, [[int a1.Entities, int a1.Periods, lst 1 fI a1.Weights, lst 1 (fL 1 fI) a1.Methods, lst 1 (fL 1 fI) a1.Costs, .sl 4 w4_1 0 y4_2.length, .sc (.slice none 0 0), .sc (.slice none 0 0), .sc (.slice none 0 0), int 0]]⟩ : AObj)) (yl_store rfl sh53 rfl rfl rfl rfl rfl rfl rfl rfl rfl) rfl) ?_
      refine st rfl rfl rfl (yv_assign rfl rfl) ?_
      refine rg_nil (hK _ ?_)
      obtain rfl := nxt_e h0
      refine c_ret (hret _ _ _ (.cell rfl (.pt rfl rfl rfl) sh53 rfl (.tmp rfl .nil)) (fun _ _ h => h) ?_)
      exact CvL.tup (.cons (CvL.agg (.cons (.refl _) (.cons (.refl _) (.cons (.refl _) (.cons (.refl _) (.cons (.refl _) (.cons (cv_lst rfl rfl rfl rfl rfl (Eq.symm rfl)) (.cons (.nil _) (.cons (.nil _) (.cons (.nil _) (.cons (.refl _) .nil))))))))))) (.cons (.refl _) .nil))
def d_ref03_List_L0 (a1 : List Int) : Nat → (List UInt8) → Int → Option ((List UInt8))
  | 0, _, _ => none
  | n + 1, y0_1, y0_2 =>
    bnd (decide (y0_2 < (a1.length : Int))) fun (x4 : Bool) =>
    cond x4 ((ix a1 y0_2).bind fun (x5 : Int) =>
    (numRD x5).bind fun (x6 : (List UInt8)) =>
    asrt (y0_1.length + x6.length ≤ 9223372036854775807) <|
    bnd (y0_1 ++ x6) fun (x8 : List UInt8) =>
    bnd (w64 (y0_2 + 1)) fun (x9 : Int) =>
    d_ref03_List_L0 a1 n (x8 : List UInt8) (x9 : Int)) (some (y0_1 : List UInt8))
def d_ref03_List (n : Nat) (a1 : List Int) : Option ((List UInt8)) :=
(numRD (a1.length : Int)).bind fun (x2 : (List UInt8)) =>
(show Option ((List UInt8)) from
d_ref03_List_L0 a1 n (x2 : List UInt8) (0 : Int)).bind <| fun (y1_1 : List UInt8) =>
some ((y1_1 : List UInt8))
theorem d_ref03_List_c {n : Nat} {a1 : List Int} {r : (List UInt8)} (h0 : d_ref03_List n a1 = some r) : PP Try.prog 60 [lst 1 fI a1] (fun y => y = str r) := by
  unfold d_ref03_List at h0
  refine pp_of_pc (R0 := fun y H => Cv (frzH H) y (str r)) ?_ (fun y H hc => ⟨_, rfl, pvS r, hc⟩)
  refine pc_of' (c := _) Try.func60 rfl rfl ?_; intro Q hret hnorm
  refine c_seq ?_
  refine c_reg ?_; intro K hK
  refine st rfl rfl rfl (yv_assign rfl rfl) ?_
  refine rg_nil (hK _ ?_)
  refine c_seq ?_
  refine c_reg ?_; intro K hK
  refine st rfl rfl rfl (yv_move rfl rfl) ?_
  refine st rfl rfl rfl (yv_len_sl rfl Try.underlying22 rfl (lst_len _)) ?_
  obtain ⟨x2, e2, h0⟩ := bind_e h0
  refine st rfl rfl rfl (yv_callP rfl rfl (.cons rfl .nil) cal22 (CvL.refl _) (numRD_c e2)) ?_
  refine st rfl rfl rfl (yv_assign rfl rfl) ?_
  refine rg_nil (hK _ ?_)
  refine c_seq ?_
  refine c_seq ?_
  refine c_reg ?_; intro K hK
  refine st rfl rfl rfl (yv_assign rfl rfl) ?_
  refine rg_nil (hK _ ?_)
  obtain ⟨j3, h1, h0⟩ := bind_e h0
  refine c_joinL (fun (a : (List UInt8)) (k : Unit) => ⟨kn [(2, str ([] : List UInt8)), (3, str a)], hk []⟩) (fun a => a = j3) ?_ ?_
  · intro Q1 jn1 jx1 jr1
    refine c_block ?_; intro Q2 bn2 bx2 br2 bo2
    refine c_loopD (fun (a : (List UInt8) × Int) (k : Unit) => ⟨kn [(0, lst 1 fI a1), (2, str ([] : List UInt8)), (3, str a.1), (4, int a.2)], hk []⟩) (fun n (a : (List UInt8) × Int) => d_ref03_List_L0 a1 n a.1 a.2) ((x2 : List UInt8), (0 : Int)) () h1 (fun _ => rfl)
      (leH_kn ⟨⟨_, rfl, (.refl _)⟩, ⟨_, rfl, (.refl _)⟩, ⟨_, rfl, (.refl _)⟩, ⟨_, rfl, (.refl _)⟩, trivial⟩ trivial) ?_
    rintro n ⟨y0_1, y0_2⟩ _ hm h1 Q3 ln3 lx3 lr3
    replace h1 : d_ref03_List_L0 a1 (n + 1) y0_1 y0_2 = some _ := h1
    rw [d_ref03_List_L0] at h1
    refine c_show ⟨kn [(0, lst 1 fI a1), (2, str ([] : List UInt8)), (3, str y0_1), (4, int y0_2)], hk []⟩ ?_
    refine c_seq ?_
    refine c_seq ?_
    refine c_reg ?_; intro K hK
    refine st rfl rfl rfl (yv_move rfl rfl) ?_
    refine st rfl rfl rfl (yv_move rfl rfl) ?_
    refine st rfl rfl rfl (yv_len_sl rfl Try.underlying22 rfl (lst_len _)) ?_
    obtain ⟨x4, e4, h1⟩ := bnd_e h1
    refine st rfl rfl rfl (yv_to (y := boo x4) (yv_lss rfl rfl rfl) (congrArg boo e4)) ?_
    refine rg_nil (hK _ ?_)
    refine c_if (b := x4) rfl ?_ ?_
    · intro hb; subst hb; replace h1 := ct h1
      refine c_skip ?_
      refine c_seq ?_
      refine c_block ?_; intro Q4 bn4 bx4 br4 bo4
      refine c_reg ?_; intro K hK
      refine st rfl rfl rfl (yv_move rfl rfl) ?_
      refine st rfl rfl rfl (yv_move rfl rfl) ?_
      refine st rfl rfl rfl (yv_move rfl rfl) ?_
      obtain ⟨x5, e5, h1⟩ := bind_e h1
      refine st rfl rfl rfl (yv_ixT rfl Try.underlying22 sh3 rfl rfl e5) ?_
      refine st rfl rfl rfl (yv_load rfl sh3 rfl (.pp _) rfl) ?_
      obtain ⟨x6, e6, h1⟩ := bind_e h1
      refine st rfl rfl rfl (yv_callP rfl rfl (.cons rfl .nil) cal22 (CvL.refl _) (numRD_c e6)) ?_
      obtain ⟨p7, h1⟩ := asrt_e h1
      obtain ⟨x8, e8, h1⟩ := bnd_e h1
      refine st rfl rfl rfl (yv_to (y := str x8) (yv_sadd rfl rfl rfl p7) (congrArg str e8)) ?_
      refine st rfl rfl rfl (yv_assign rfl rfl) ?_
      refine rg_nil (hK _ ?_)
      refine c_nil (bn4 _ ?_)
      refine c_reg ?_; intro K hK
      refine st rfl rfl rfl (yv_move rfl rfl) ?_
      obtain ⟨x9, e9, h1⟩ := bnd_e h1
      refine st rfl rfl rfl (yv_add rfl rfl rfl e9) ?_
      refine st rfl rfl rfl (yv_assign rfl rfl) ?_
      refine rg_nil (hK _ ?_)
      refine c_nil (ln3 _ ⟨(x8, x9), (), h1, leH_kn ⟨⟨_, rfl, (.refl _)⟩, ⟨_, rfl, (.refl _)⟩, ⟨_, rfl, (.refl _)⟩, ⟨_, rfl, (.refl _)⟩, trivial⟩ trivial⟩)
    · intro hb; subst hb; replace h1 := cf h1
      refine c_exit (lx3 _ _ (bx2 _ ?_))
      obtain rfl := nxt_e h1
      refine c_nil (jn1 _ ⟨y0_1, (), rfl, leH_kn ⟨⟨_, rfl, (.refl _)⟩, ⟨_, rfl, (.refl _)⟩, trivial⟩ trivial⟩)
  · rintro y1_1 _ rfl
    refine c_show ⟨kn [(2, str ([] : List UInt8)), (3, str y1_1)], hk []⟩ ?_
    refine c_seq ?_
    refine c_reg ?_; intro K hK
    refine st rfl rfl rfl (yv_move rfl rfl) ?_
    refine st rfl rfl rfl (yv_assign rfl rfl) ?_
    refine rg_nil (hK _ ?_)
    obtain rfl := nxt_e h0
    refine c_ret (hret _ _ _ (.tmp rfl .nil) (fun _ _ h => h) ?_)
    exact .refl _
def d_ref04_Bytes_L0 (a1 : GMaster) : Nat → (List UInt8) → Int → Option ((List UInt8))
  | 0, _, _ => none
  | n + 1, y0_1, y0_2 =>
    bnd (decide (y0_2 < a1.Entities)) fun (x13 : Bool) =>
    cond x13 ((ix a1.Methods y0_2).bind fun (x14 : List Int) =>
    (d_ref03_List n x14).bind fun (x15 : (List UInt8)) =>
    asrt (y0_1.length + x15.length ≤ 9223372036854775807) <|
    bnd (y0_1 ++ x15) fun (x17 : List UInt8) =>
    bnd (w64 (y0_2 + 1)) fun (x18 : Int) =>
    d_ref04_Bytes_L0 a1 n (x17 : List UInt8) (x18 : Int)) (some (y0_1 : List UInt8))
def d_ref04_Bytes_L1 (a1 : GMaster) : Nat → (List UInt8) → Int → Option ((List UInt8))
  | 0, _, _ => none
  | n + 1, y2_1, y2_2 =>
    bnd (decide (y2_2 < a1.Entities)) fun (x20 : Bool) =>
    cond x20 ((ix a1.Costs y2_2).bind fun (x21 : List Int) =>
    (d_ref03_List n x21).bind fun (x22 : (List UInt8)) =>
    asrt (y2_1.length + x22.length ≤ 9223372036854775807) <|
    bnd (y2_1 ++ x22) fun (x24 : List UInt8) =>
    bnd (w64 (y2_2 + 1)) fun (x25 : Int) =>
    d_ref04_Bytes_L1 a1 n (x24 : List UInt8) (x25 : Int)) (some (y2_1 : List UInt8))
def d_ref04_Bytes (n : Nat) (a1 : GMaster) : Option ((List UInt8)) :=
(d_ref04_Check n a1).bind fun (x3 : Bool) =>
bnd (!x3) fun (x4 : Bool) =>
cond x4 (some ((([] : List UInt8) : List UInt8))) ((numRD a1.Entities).bind fun (x5 : (List UInt8)) =>
(numRD a1.Periods).bind fun (x6 : (List UInt8)) =>
asrt (x5.length + x6.length ≤ 9223372036854775807) <|
bnd (x5 ++ x6) fun (x8 : List UInt8) =>
(d_ref03_List n a1.Weights).bind fun (x9 : (List UInt8)) =>
asrt (x8.length + x9.length ≤ 9223372036854775807) <|
bnd (x8 ++ x9) fun (x11 : List UInt8) =>
(show Option ((List UInt8)) from
d_ref04_Bytes_L0 a1 n (x11 : List UInt8) (0 : Int)).bind <| fun (y1_1 : List UInt8) =>
(show Option ((List UInt8)) from
d_ref04_Bytes_L1 a1 n (y1_1 : List UInt8) (0 : Int)).bind <| fun (y3_1 : List UInt8) =>
some ((y3_1 : List UInt8)))
theorem d_ref04_Bytes_c {n : Nat} {a1 : GMaster} {r : (List UInt8)} (h0 : d_ref04_Bytes n a1 = some r) : PP Try.prog 35 [.agg (GMaster.av a1)] (fun y => y = str r) := by
  unfold d_ref04_Bytes at h0
  refine pp_of_pc (R0 := fun y H => Cv (frzH H) y (str r)) ?_ (fun y H hc => ⟨_, rfl, pvS r, hc⟩)
  refine pc_of' (c := _) Try.func35 rfl rfl ?_; intro Q hret hnorm
  refine c_seq ?_
  refine c_reg ?_; intro K hK
  refine se rfl rfl rfl (yl_box 1 .any rfl rfl rfl) ?_; rintro _ _ ⟨v2, -, rfl, rfl⟩
  refine st rfl rfl rfl (yv_assign rfl rfl) ?_
  refine rg_nil (hK _ ?_)
  refine c_seq ?_
  refine c_seq ?_
  refine c_reg ?_; intro K hK
  refine st rfl rfl rfl (yv_load rfl sh43 rfl (.pt rfl rfl rfl) rfl) ?_
  obtain ⟨x3, e3, h0⟩ := bind_e h0
  refine st rfl rfl rfl (yv_callP rfl rfl (.cons rfl .nil) cal31 (CvL.refl _) (d_ref04_Check_c e3)) ?_
  obtain ⟨x4, e4, h0⟩ := bnd_e h0
  refine st rfl rfl rfl (yv_not rfl rfl e4) ?_
  refine rg_nil (hK _ ?_)
  refine c_if (b := x4) rfl ?_ ?_
  · intro hb; subst hb; replace h0 := ct h0
    refine c_seq ?_
    refine c_reg ?_; intro K hK
    refine st rfl rfl rfl (yv_assign rfl rfl) ?_
    refine rg_nil (hK _ ?_)
    obtain rfl := nxt_e h0
    refine c_ret (hret _ _ _ (.tmp rfl .nil) (fun _ _ h => h) ?_)
    exact .refl _
  · intro hb; subst hb; replace h0 := cf h0
    refine c_skip ?_
    refine c_seq ?_
    refine c_drawE [0, 1, 3, 0, 8, 31, 63, 0, 128, 447, 1023, 2047] (fun i => bif Nat.beq i 0 then ([1]) else bif Nat.beq i 1 then ([1]) else bif Nat.beq i 3 then ([1]) else bif Nat.beq i 4 then ([1]) else bif Nat.beq i 7 then ([1]) else bif Nat.beq i 8 then ([1]) else []) (fun i => [1]) (fun i => true) [0, 1, 2, 3, 4, 5, 6, 7, 8, 9, 10, 11] mixed (by kernel_rfl) ?_; intro K hK
    refine de_pure rfl rfl rfl rfl (fun H hH => yv_fieldAddr rfl fo43_0 rfl (.pt ((hH _ (by decide)).trans rfl) rfl rfl) (.pt _ _ _ _ _)) ?_
    refine de_pure rfl rfl rfl rfl (fun H hH => yv_load rfl sh3 rfl (.pt ((hH _ (by decide)).trans rfl) rfl rfl) rfl) ?_
    obtain ⟨x5, e5, h0⟩ := bind_e h0
    refine de_pure rfl rfl rfl rfl (fun H hH => yv_callP rfl rfl (.cons rfl .nil) cal22 (CvL.refl _) (numRD_c e5)) ?_
    refine de_pure rfl rfl rfl rfl (fun H hH => yv_fieldAddr rfl fo43_1 rfl (.pt ((hH _ (by decide)).trans rfl) rfl rfl) (.pt _ _ _ _ _)) ?_
    refine de_pure rfl rfl rfl rfl (fun H hH => yv_load rfl sh3 rfl (.pt ((hH _ (by decide)).trans rfl) rfl rfl) rfl) ?_
    obtain ⟨x6, e6, h0⟩ := bind_e h0
    refine de_pure rfl rfl rfl rfl (fun H hH => yv_callP rfl rfl (.cons rfl .nil) cal22 (CvL.refl _) (numRD_c e6)) ?_
    obtain ⟨p7, h0⟩ := asrt_e h0
    obtain ⟨x8, e8, h0⟩ := bnd_e h0
    refine de_pure rfl rfl rfl rfl (fun H hH => yv_to (y := str x8) (yv_sadd rfl rfl rfl p7) (congrArg str e8)) ?_
    refine de_pure rfl rfl rfl rfl (fun H hH => yv_fieldAddr rfl fo43_2 rfl (.pt ((hH _ (by decide)).trans rfl) rfl rfl) (.pt _ _ _ _ _)) ?_
    refine de_pure rfl rfl rfl rfl (fun H hH => yv_load rfl sh22 rfl (.pt ((hH _ (by decide)).trans rfl) rfl rfl) rfl) ?_
    obtain ⟨x9, e9, h0⟩ := bind_e h0
    refine de_pure rfl rfl rfl rfl (fun H hH => yv_callP rfl rfl (.cons rfl .nil) cal60 (CvL.refl _) (d_ref03_List_c e9)) ?_
    obtain ⟨p10, h0⟩ := asrt_e h0
    obtain ⟨x11, e11, h0⟩ := bnd_e h0
    refine de_pure rfl rfl rfl rfl (fun H hH => yv_to (y := str x11) (yv_sadd rfl rfl rfl p10) (congrArg str e11)) ?_
    refine de_pure rfl rfl rfl rfl (fun H hH => yv_assign rfl rfl) ?_
    refine de_nil (hK _ ?_)
    refine c_seq ?_
    refine c_seq ?_
    refine c_reg ?_; intro K hK
    refine st rfl rfl rfl (yv_assign rfl rfl) ?_
    refine rg_nil (hK _ ?_)
    obtain ⟨j12, h1, h0⟩ := bind_e h0
    refine c_joinL (fun (a : (List UInt8)) (k : Unit) => ⟨kn [(1, .pt 1 v2 0 0), (2, str ([] : List UInt8)), (3, str a)], hk [(1, ⟨43, 5, true, true, v2, [[int a1.Entities, int a1.Periods, lst 1 fI a1.Weights, lst 1 (fL 1 fI) a1.Methods, lst 1 (fL 1 fI) a1.Costs]]⟩)]⟩) (fun a => a = j12) ?_ ?_
    · intro Q1 jn1 jx1 jr1
      refine c_block ?_; intro Q2 bn2 bx2 br2 bo2
      refine c_loopD (fun (a : (List UInt8) × Int) (k : Unit) => ⟨kn [(1, .pt 1 v2 0 0), (2, str ([] : List UInt8)), (3, str a.1), (4, int a.2)], hk [(1, ⟨43, 5, true, true, v2, [[int a1.Entities, int a1.Periods, lst 1 fI a1.Weights, lst 1 (fL 1 fI) a1.Methods, lst 1 (fL 1 fI) a1.Costs]]⟩)]⟩) (fun n (a : (List UInt8) × Int) => d_ref04_Bytes_L0 a1 n a.1 a.2) ((x11 : List UInt8), (0 : Int)) () h1 (fun _ => rfl)
        (leH_kn ⟨⟨_, rfl, (.refl _)⟩, ⟨_, rfl, (.refl _)⟩, ⟨_, rfl, (.refl _)⟩, ⟨_, rfl, (.refl _)⟩, trivial⟩ ⟨⟨_, rfl, (.refl _)⟩, trivial⟩) ?_
      rintro n ⟨y0_1, y0_2⟩ _ hm h1 Q3 ln3 lx3 lr3
      replace h1 : d_ref04_Bytes_L0 a1 (n + 1) y0_1 y0_2 = some _ := h1
      rw [d_ref04_Bytes_L0] at h1
      refine c_show ⟨kn [(1, .pt 1 v2 0 0), (2, str ([] : List UInt8)), (3, str y0_1), (4, int y0_2)], hk [(1, ⟨43, 5, true, true, v2, [[int a1.Entities, int a1.Periods, lst 1 fI a1.Weights, lst 1 (fL 1 fI) a1.Methods, lst 1 (fL 1 fI) a1.Costs]]⟩)]⟩ ?_
      refine c_seq ?_
      refine c_seq ?_
      refine c_reg ?_; intro K hK
      refine st rfl rfl rfl (yv_move rfl rfl) ?_
      refine st rfl rfl rfl (yv_fieldAddr rfl fo43_0 rfl (.pt rfl rfl rfl) (.pt _ _ _ _ _)) ?_
      refine st rfl rfl rfl (yv_load rfl sh3 rfl (.pt rfl rfl rfl) rfl) ?_
      obtain ⟨x13, e13, h1⟩ := bnd_e h1
      refine st rfl rfl rfl (yv_to (y := boo x13) (yv_lss rfl rfl rfl) (congrArg boo e13)) ?_
      refine rg_nil (hK _ ?_)
      refine c_if (b := x13) rfl ?_ ?_
      · intro hb; subst hb; replace h1 := ct h1
        refine c_skip ?_
        refine c_seq ?_
        refine c_block ?_; intro Q4 bn4 bx4 br4 bo4
        refine c_reg ?_; intro K hK
        refine st rfl rfl rfl (yv_move rfl rfl) ?_
        refine st rfl rfl rfl (yv_fieldAddr rfl fo43_3 rfl (.pt rfl rfl rfl) (.pt _ _ _ _ _)) ?_
        refine st rfl rfl rfl (yv_load rfl sh41 rfl (.pt rfl rfl rfl) rfl) ?_
        refine st rfl rfl rfl (yv_move rfl rfl) ?_
        obtain ⟨x14, e14, h1⟩ := bind_e h1
        refine st rfl rfl rfl (yv_ixT rfl Try.underlying41 sh22 rfl rfl e14) ?_
        refine st rfl rfl rfl (yv_load rfl sh22 rfl (.pp _) rfl) ?_
        obtain ⟨x15, e15, h1⟩ := bind_e h1
        refine st rfl rfl rfl (yv_callP rfl rfl (.cons rfl .nil) cal60 (CvL.refl _) (d_ref03_List_c e15)) ?_
        obtain ⟨p16, h1⟩ := asrt_e h1
        obtain ⟨x17, e17, h1⟩ := bnd_e h1
        refine st rfl rfl rfl (yv_to (y := str x17) (yv_sadd rfl rfl rfl p16) (congrArg str e17)) ?_
        refine st rfl rfl rfl (yv_assign rfl rfl) ?_
        refine rg_nil (hK _ ?_)
        refine c_nil (bn4 _ ?_)
        refine c_reg ?_; intro K hK
        refine st rfl rfl rfl (yv_move rfl rfl) ?_
        obtain ⟨x18, e18, h1⟩ := bnd_e h1
        refine st rfl rfl rfl (yv_add rfl rfl rfl e18) ?_
        refine st rfl rfl rfl (yv_assign rfl rfl) ?_
        refine rg_nil (hK _ ?_)
        refine c_nil (ln3 _ ⟨(x17, x18), (), h1, leH_kn ⟨⟨_, rfl, (.refl _)⟩, ⟨_, rfl, (.refl _)⟩, ⟨_, rfl, (.refl _)⟩, ⟨_, rfl, (.refl _)⟩, trivial⟩ ⟨⟨_, rfl, (.refl _)⟩, trivial⟩⟩)
      · intro hb; subst hb; replace h1 := cf h1
        refine c_exit (lx3 _ _ (bx2 _ ?_))
        obtain rfl := nxt_e h1
        refine c_nil (jn1 _ ⟨y0_1, (), rfl, leH_kn ⟨⟨_, rfl, (.refl _)⟩, ⟨_, rfl, (.refl _)⟩, ⟨_, rfl, (.refl _)⟩, trivial⟩ ⟨⟨_, rfl, (.refl _)⟩, trivial⟩⟩)
    · rintro y1_1 _ rfl
      refine c_show ⟨kn [(1, .pt 1 v2 0 0), (2, str ([] : List UInt8)), (3, str y1_1)], hk [(1, ⟨43, 5, true, true, v2, [[int a1.Entities, int a1.Periods, lst 1 fI a1.Weights, lst 1 (fL 1 fI) a1.Methods, lst 1 (fL 1 fI) a1.Costs]]⟩)]⟩ ?_
      refine c_seq ?_
      refine c_seq ?_
      refine c_reg ?_; intro K hK
      refine st rfl rfl rfl (yv_assign rfl rfl) ?_
      refine rg_nil (hK _ ?_)
      obtain ⟨j19, h1, h0⟩ := bind_e h0
      refine c_joinL (fun (a : (List UInt8)) (k : Unit) => ⟨kn [(2, str ([] : List UInt8)), (3, str a)], hk []⟩) (fun a => a = j19) ?_ ?_
      · intro Q1 jn1 jx1 jr1
        refine c_block ?_; intro Q2 bn2 bx2 br2 bo2
        refine c_loopD (fun (a : (List UInt8) × Int) (k : Unit) => ⟨kn [(1, .pt 1 v2 0 0), (2, str ([] : List UInt8)), (3, str a.1), (5, int a.2)], hk [(1, ⟨43, 5, true, true, v2, [[int a1.Entities, int a1.Periods, lst 1 fI a1.Weights, lst 1 (fL 1 fI) a1.Methods, lst 1 (fL 1 fI) a1.Costs]]⟩)]⟩) (fun n (a : (List UInt8) × Int) => d_ref04_Bytes_L1 a1 n a.1 a.2) ((y1_1 : List UInt8), (0 : Int)) () h1 (fun _ => rfl)
          (leH_kn ⟨⟨_, rfl, (.refl _)⟩, ⟨_, rfl, (.refl _)⟩, ⟨_, rfl, (.refl _)⟩, ⟨_, rfl, (.refl _)⟩, trivial⟩ ⟨⟨_, rfl, (.refl _)⟩, trivial⟩) ?_
        rintro n ⟨y2_1, y2_2⟩ _ hm h1 Q3 ln3 lx3 lr3
        replace h1 : d_ref04_Bytes_L1 a1 (n + 1) y2_1 y2_2 = some _ := h1
        rw [d_ref04_Bytes_L1] at h1
        refine c_show ⟨kn [(1, .pt 1 v2 0 0), (2, str ([] : List UInt8)), (3, str y2_1), (5, int y2_2)], hk [(1, ⟨43, 5, true, true, v2, [[int a1.Entities, int a1.Periods, lst 1 fI a1.Weights, lst 1 (fL 1 fI) a1.Methods, lst 1 (fL 1 fI) a1.Costs]]⟩)]⟩ ?_
        refine c_seq ?_
        refine c_seq ?_
        refine c_reg ?_; intro K hK
        refine st rfl rfl rfl (yv_move rfl rfl) ?_
        refine st rfl rfl rfl (yv_fieldAddr rfl fo43_0 rfl (.pt rfl rfl rfl) (.pt _ _ _ _ _)) ?_
        refine st rfl rfl rfl (yv_load rfl sh3 rfl (.pt rfl rfl rfl) rfl) ?_
        obtain ⟨x20, e20, h1⟩ := bnd_e h1
        refine st rfl rfl rfl (yv_to (y := boo x20) (yv_lss rfl rfl rfl) (congrArg boo e20)) ?_
        refine rg_nil (hK _ ?_)
        refine c_if (b := x20) rfl ?_ ?_
        · intro hb; subst hb; replace h1 := ct h1
          refine c_skip ?_
          refine c_seq ?_
          refine c_block ?_; intro Q4 bn4 bx4 br4 bo4
          refine c_reg ?_; intro K hK
          refine st rfl rfl rfl (yv_move rfl rfl) ?_
          refine st rfl rfl rfl (yv_fieldAddr rfl fo43_4 rfl (.pt rfl rfl rfl) (.pt _ _ _ _ _)) ?_
          refine st rfl rfl rfl (yv_load rfl sh41 rfl (.pt rfl rfl rfl) rfl) ?_
          refine st rfl rfl rfl (yv_move rfl rfl) ?_
          obtain ⟨x21, e21, h1⟩ := bind_e h1
          refine st rfl rfl rfl (yv_ixT rfl Try.underlying41 sh22 rfl rfl e21) ?_
          refine st rfl rfl rfl (yv_load rfl sh22 rfl (.pp _) rfl) ?_
          obtain ⟨x22, e22, h1⟩ := bind_e h1
          refine st rfl rfl rfl (yv_callP rfl rfl (.cons rfl .nil) cal60 (CvL.refl _) (d_ref03_List_c e22)) ?_
          obtain ⟨p23, h1⟩ := asrt_e h1
          obtain ⟨x24, e24, h1⟩ := bnd_e h1
          refine st rfl rfl rfl (yv_to (y := str x24) (yv_sadd rfl rfl rfl p23) (congrArg str e24)) ?_
          refine st rfl rfl rfl (yv_assign rfl rfl) ?_
          refine rg_nil (hK _ ?_)
          refine c_nil (bn4 _ ?_)
          refine c_reg ?_; intro K hK
          refine st rfl rfl rfl (yv_move rfl rfl) ?_
          obtain ⟨x25, e25, h1⟩ := bnd_e h1
          refine st rfl rfl rfl (yv_add rfl rfl rfl e25) ?_
          refine st rfl rfl rfl (yv_assign rfl rfl) ?_
          refine rg_nil (hK _ ?_)
          refine c_nil (ln3 _ ⟨(x24, x25), (), h1, leH_kn ⟨⟨_, rfl, (.refl _)⟩, ⟨_, rfl, (.refl _)⟩, ⟨_, rfl, (.refl _)⟩, ⟨_, rfl, (.refl _)⟩, trivial⟩ ⟨⟨_, rfl, (.refl _)⟩, trivial⟩⟩)
        · intro hb; subst hb; replace h1 := cf h1
          refine c_exit (lx3 _ _ (bx2 _ ?_))
          obtain rfl := nxt_e h1
          refine c_nil (jn1 _ ⟨y2_1, (), rfl, leH_kn ⟨⟨_, rfl, (.refl _)⟩, ⟨_, rfl, (.refl _)⟩, trivial⟩ trivial⟩)
      · rintro y3_1 _ rfl
        refine c_show ⟨kn [(2, str ([] : List UInt8)), (3, str y3_1)], hk []⟩ ?_
        refine c_seq ?_
        refine c_reg ?_; intro K hK
        refine st rfl rfl rfl (yv_move rfl rfl) ?_
        refine st rfl rfl rfl (yv_assign rfl rfl) ?_
        refine rg_nil (hK _ ?_)
        obtain rfl := nxt_e h0
        refine c_ret (hret _ _ _ (.tmp rfl .nil) (fun _ _ h => h) ?_)
        exact .refl _
def d_ref14_samePapers_L0 (a1 : GState) (a2 : GState) : Nat → Int → Option ((Unit) ⊕ (Bool))
  | 0, _ => none
  | n + 1, y1_1 =>
    bnd (decide (y1_1 < (a1.Receipts.length : Int))) fun (x10 : Bool) =>
    cond x10 ((ix a1.Receipts y1_1).bind fun (x11 : GReceipt) =>
    (ix a2.Receipts y1_1).bind fun (x12 : GReceipt) =>
    bnd (!decide ((x11 : GReceipt) = (x12 : GReceipt))) fun (x13 : Bool) =>
    cond x13 (esc (some ((false : Bool)))) (bnd (w64 (y1_1 + 1)) fun (x15 : Int) =>
    d_ref14_samePapers_L0 a1 a2 n (x15 : Int))) (brk ())
def d_ref14_samePapers_L1 (a1 : GState) (a2 : GState) : Nat → Int → Option ((Unit) ⊕ (Bool))
  | 0, _ => none
  | n + 1, y3_1 =>
    bnd (decide (y3_1 < (a1.Sales.length : Int))) fun (x17 : Bool) =>
    cond x17 ((ix a1.Sales y3_1).bind fun (x18 : GSale) =>
    (ix a2.Sales y3_1).bind fun (x19 : GSale) =>
    bnd (!decide ((x18 : GSale) = (x19 : GSale))) fun (x20 : Bool) =>
    cond x20 (esc (some ((false : Bool)))) (bnd (w64 (y3_1 + 1)) fun (x22 : Int) =>
    d_ref14_samePapers_L1 a1 a2 n (x22 : Int))) (brk ())
def d_ref14_samePapers_L2 (a1 : GState) (a2 : GState) : Nat → Int → Option ((Unit) ⊕ (Bool))
  | 0, _ => none
  | n + 1, y5_1 =>
    bnd (decide (y5_1 < (a1.Transits.length : Int))) fun (x24 : Bool) =>
    cond x24 ((ix a1.Transits y5_1).bind fun (x25 : GTransit) =>
    (ix a2.Transits y5_1).bind fun (x26 : GTransit) =>
    bnd (!decide ((x25 : GTransit) = (x26 : GTransit))) fun (x27 : Bool) =>
    cond x27 (esc (some ((false : Bool)))) (bnd (w64 (y5_1 + 1)) fun (x29 : Int) =>
    d_ref14_samePapers_L2 a1 a2 n (x29 : Int))) (brk ())
def d_ref14_samePapers (n : Nat) (a1 : GState) (a2 : GState) : Option (Bool) :=
(show Option (Bool) from
bnd (decide ((a1.Receipts.length : Int) ≠ (a2.Receipts.length : Int))) fun (x6 : Bool) =>
cond x6 (some (true : Bool)) (bnd (decide ((a1.Sales.length : Int) ≠ (a2.Sales.length : Int))) fun (x7 : Bool) =>
cond x7 (some (true : Bool)) (bnd (decide ((a1.Transits.length : Int) ≠ (a2.Transits.length : Int))) fun (x8 : Bool) =>
some (x8 : Bool)))).bind <| fun (y0_1 : Bool) =>
cond y0_1 (some ((false : Bool))) ((show Option ((Unit) ⊕ (Bool)) from
d_ref14_samePapers_L0 a1 a2 n (0 : Int)).bind <| sel <| fun (_ : Unit) =>
(show Option ((Unit) ⊕ (Bool)) from
d_ref14_samePapers_L1 a1 a2 n (0 : Int)).bind <| sel <| fun (_ : Unit) =>
(show Option ((Unit) ⊕ (Bool)) from
d_ref14_samePapers_L2 a1 a2 n (0 : Int)).bind <| sel <| fun (_ : Unit) =>
some ((true : Bool)))
theorem d_ref14_samePapers_c {n : Nat} {a1 : GState} {a2 : GState} {r : Bool} (h0 : d_ref14_samePapers n a1 a2 = some r) : PP Try.prog 61 [.agg (GState.av a1), .agg (GState.av a2)] (fun y => y = boo r) := by
  unfold d_ref14_samePapers at h0
  refine pp_of_pc (R0 := fun y H => Cv (frzH H) y (boo r)) ?_ (fun y H hc => ⟨_, rfl, pvB r, hc⟩)
  refine pc_of' (c := _) Try.func61 rfl rfl ?_; intro Q hret hnorm
  refine c_seq ?_
  refine c_reg ?_; intro K hK
  refine se rfl rfl rfl (yl_box 1 .any rfl rfl rfl) ?_; rintro _ _ ⟨v3, -, rfl, rfl⟩
  refine se rfl rfl rfl (yl_box 2 .any rfl rfl rfl) ?_; rintro _ _ ⟨v4, -, rfl, rfl⟩
  refine st rfl rfl rfl (yv_assign rfl rfl) ?_
  refine rg_nil (hK _ ?_)
  refine c_seq ?_
  refine c_seq ?_
  obtain ⟨j5, h1, h0⟩ := bind_e h0
  refine c_regL (fun (a : Bool) (k : Unit) => ⟨kn [(2, .pt 1 v3 0 0), (3, .pt 2 v4 0 0), (4, boo false), (32, boo a)], hk [(1, ⟨53, 10, true, true, v3, [[int a1.Master.Entities, int a1.Master.Periods, lst 1 fI a1.Master.Weights, lst 1 (fL 1 fI) a1.Master.Methods, lst 1 (fL 1 fI) a1.Master.Costs, lst 8 GEnt.av a1.Ents, lst 8 GReceipt.av a1.Receipts, lst 9 GSale.av a1.Sales, lst 6 GTransit.av a1.Transits, int a1.Done]]⟩), (2, ⟨53, 10, true, true, v4, [[int a2.Master.Entities, int a2.Master.Periods, lst 1 fI a2.Master.Weights, lst 1 (fL 1 fI) a2.Master.Methods, lst 1 (fL 1 fI) a2.Master.Costs, lst 8 GEnt.av a2.Ents, lst 8 GReceipt.av a2.Receipts, lst 9 GSale.av a2.Sales, lst 6 GTransit.av a2.Transits, int a2.Done]]⟩)]⟩) (fun a => a = j5) ?_ ?_
  · intro K hK
    refine st rfl rfl rfl (yv_fieldAddr rfl fo53_2 rfl (.pt rfl rfl rfl) (.pt _ _ _ _ _)) ?_
    refine st rfl rfl rfl (yv_load rfl sh49 rfl (.pt rfl rfl rfl) rfl) ?_
    refine st rfl rfl rfl (yv_len_sl rfl Try.underlying49 rfl (lst_len _)) ?_
    refine st rfl rfl rfl (yv_fieldAddr rfl fo53_2 rfl (.pt rfl rfl rfl) (.pt _ _ _ _ _)) ?_
    refine st rfl rfl rfl (yv_load rfl sh49 rfl (.pt rfl rfl rfl) rfl) ?_
    refine st rfl rfl rfl (yv_len_sl rfl Try.underlying49 rfl (lst_len _)) ?_
    obtain ⟨x6, e6, h1⟩ := bnd_e h1
    refine st rfl rfl rfl (yv_to (y := boo x6) (yv_neq rfl rfl rfl) (congrArg boo e6)) ?_
    refine st rfl rfl rfl (yv_move rfl rfl) ?_
    refine scases 15 rfl ?_ ?_
    · intro hb; subst hb; replace h1 := ct h1
      refine sk rfl rfl rfl ?_
      refine sk rfl rfl rfl ?_
      refine sk rfl rfl rfl ?_
      refine sk rfl rfl rfl ?_
      refine sk rfl rfl rfl ?_
      refine sk rfl rfl rfl ?_
      refine sk rfl rfl rfl ?_
      refine st rfl rfl rfl (yv_pick rfl rfl (fun _ => rfl) (fun _ => rfl) rfl) ?_
      refine st rfl rfl rfl (yv_move rfl rfl) ?_
      refine sk rfl rfl rfl ?_
      refine sk rfl rfl rfl ?_
      refine sk rfl rfl rfl ?_
      refine sk rfl rfl rfl ?_
      refine sk rfl rfl rfl ?_
      refine sk rfl rfl rfl ?_
      refine sk rfl rfl rfl ?_
      refine st rfl rfl rfl (yv_pick rfl rfl (fun _ => rfl) (fun _ => rfl) rfl) ?_
      obtain rfl := nxt_e h1
      refine rg_nil (hK _ ⟨true, (), rfl, leH_kn ⟨⟨_, rfl, (.refl _)⟩, ⟨_, rfl, (.refl _)⟩, ⟨_, rfl, (.refl _)⟩, ⟨_, rfl, (.refl _)⟩, trivial⟩ ⟨⟨_, rfl, (.refl _)⟩, ⟨_, rfl, (.refl _)⟩, trivial⟩⟩)
    · intro hb; subst hb; replace h1 := cf h1
      refine st rfl rfl rfl (yv_fieldAddr rfl fo53_3 rfl (.pt rfl rfl rfl) (.pt _ _ _ _ _)) ?_
      refine st rfl rfl rfl (yv_load rfl sh50 rfl (.pt rfl rfl rfl) rfl) ?_
      refine st rfl rfl rfl (yv_len_sl rfl Try.underlying50 rfl (lst_len _)) ?_
      refine st rfl rfl rfl (yv_fieldAddr rfl fo53_3 rfl (.pt rfl rfl rfl) (.pt _ _ _ _ _)) ?_
      refine st rfl rfl rfl (yv_load rfl sh50 rfl (.pt rfl rfl rfl) rfl) ?_
      refine st rfl rfl rfl (yv_len_sl rfl Try.underlying50 rfl (lst_len _)) ?_
      obtain ⟨x7, e7, h1⟩ := bnd_e h1
      refine st rfl rfl rfl (yv_to (y := boo x7) (yv_neq rfl rfl rfl) (congrArg boo e7)) ?_
      refine st rfl rfl rfl (yv_pick rfl rfl (fun _ => rfl) (fun _ => rfl) rfl) ?_
      refine st rfl rfl rfl (yv_move rfl rfl) ?_
      refine scases 24 rfl ?_ ?_
      · intro hb; subst hb; replace h1 := ct h1
        refine sk rfl rfl rfl ?_
        refine sk rfl rfl rfl ?_
        refine sk rfl rfl rfl ?_
        refine sk rfl rfl rfl ?_
        refine sk rfl rfl rfl ?_
        refine sk rfl rfl rfl ?_
        refine sk rfl rfl rfl ?_
        refine st rfl rfl rfl (yv_pick rfl rfl (fun _ => rfl) (fun _ => rfl) rfl) ?_
        obtain rfl := nxt_e h1
        refine rg_nil (hK _ ⟨true, (), rfl, leH_kn ⟨⟨_, rfl, (.refl _)⟩, ⟨_, rfl, (.refl _)⟩, ⟨_, rfl, (.refl _)⟩, ⟨_, rfl, (.refl _)⟩, trivial⟩ ⟨⟨_, rfl, (.refl _)⟩, ⟨_, rfl, (.refl _)⟩, trivial⟩⟩)
      · intro hb; subst hb; replace h1 := cf h1
        refine st rfl rfl rfl (yv_fieldAddr rfl fo53_4 rfl (.pt rfl rfl rfl) (.pt _ _ _ _ _)) ?_
        refine st rfl rfl rfl (yv_load rfl sh51 rfl (.pt rfl rfl rfl) rfl) ?_
        refine st rfl rfl rfl (yv_len_sl rfl Try.underlying51 rfl (lst_len _)) ?_
        refine st rfl rfl rfl (yv_fieldAddr rfl fo53_4 rfl (.pt rfl rfl rfl) (.pt _ _ _ _ _)) ?_
        refine st rfl rfl rfl (yv_load rfl sh51 rfl (.pt rfl rfl rfl) rfl) ?_
        refine st rfl rfl rfl (yv_len_sl rfl Try.underlying51 rfl (lst_len _)) ?_
        obtain ⟨x8, e8, h1⟩ := bnd_e h1
        refine st rfl rfl rfl (yv_to (y := boo x8) (yv_neq rfl rfl rfl) (congrArg boo e8)) ?_
        refine st rfl rfl rfl (yv_pick rfl rfl (fun _ => rfl) (fun _ => rfl) rfl) ?_
        obtain rfl := nxt_e h1
        refine rg_nil (hK _ ⟨x8, (), rfl, leH_kn ⟨⟨_, rfl, (.refl _)⟩, ⟨_, rfl, (.refl _)⟩, ⟨_, rfl, (.refl _)⟩, ⟨_, rfl, (.refl _)⟩, trivial⟩ ⟨⟨_, rfl, (.refl _)⟩, ⟨_, rfl, (.refl _)⟩, trivial⟩⟩)
  · rintro y0_1 _ rfl
    refine c_show ⟨kn [(2, .pt 1 v3 0 0), (3, .pt 2 v4 0 0), (4, boo false), (32, boo y0_1)], hk [(1, ⟨53, 10, true, true, v3, [[int a1.Master.Entities, int a1.Master.Periods, lst 1 fI a1.Master.Weights, lst 1 (fL 1 fI) a1.Master.Methods, lst 1 (fL 1 fI) a1.Master.Costs, lst 8 GEnt.av a1.Ents, lst 8 GReceipt.av a1.Receipts, lst 9 GSale.av a1.Sales, lst 6 GTransit.av a1.Transits, int a1.Done]]⟩), (2, ⟨53, 10, true, true, v4, [[int a2.Master.Entities, int a2.Master.Periods, lst 1 fI a2.Master.Weights, lst 1 (fL 1 fI) a2.Master.Methods, lst 1 (fL 1 fI) a2.Master.Costs, lst 8 GEnt.av a2.Ents, lst 8 GReceipt.av a2.Receipts, lst 9 GSale.av a2.Sales, lst 6 GTransit.av a2.Transits, int a2.Done]]⟩)]⟩ ?_
    refine c_if (b := y0_1) rfl ?_ ?_
    · intro hb; subst hb; replace h0 := ct h0
      refine c_seq ?_
      refine c_reg ?_; intro K hK
      refine st rfl rfl rfl (yv_assign rfl rfl) ?_
      refine rg_nil (hK _ ?_)
      obtain rfl := nxt_e h0
      refine c_ret (hret _ _ _ (.tmp rfl .nil) (fun _ _ h => h) ?_)
      exact .refl _
    · intro hb; subst hb; replace h0 := cf h0
      refine c_skip ?_
      refine c_seq ?_
      refine c_seq ?_
      refine c_reg ?_; intro K hK
      refine st rfl rfl rfl (yv_assign rfl rfl) ?_
      refine rg_nil (hK _ ?_)
      obtain ⟨j9, h1, h0⟩ := bind_e h0
      refine c_joinL (fun (a : Unit) (k : Unit) => ⟨kn [(2, .pt 1 v3 0 0), (3, .pt 2 v4 0 0), (4, boo false)], hk [(1, ⟨53, 10, true, true, v3, [[int a1.Master.Entities, int a1.Master.Periods, lst 1 fI a1.Master.Weights, lst 1 (fL 1 fI) a1.Master.Methods, lst 1 (fL 1 fI) a1.Master.Costs, lst 8 GEnt.av a1.Ents, lst 8 GReceipt.av a1.Receipts, lst 9 GSale.av a1.Sales, lst 6 GTransit.av a1.Transits, int a1.Done]]⟩), (2, ⟨53, 10, true, true, v4, [[int a2.Master.Entities, int a2.Master.Periods, lst 1 fI a2.Master.Weights, lst 1 (fL 1 fI) a2.Master.Methods, lst 1 (fL 1 fI) a2.Master.Costs, lst 8 GEnt.av a2.Ents, lst 8 GReceipt.av a2.Receipts, lst 9 GSale.av a2.Sales, lst 6 GTransit.av a2.Transits, int a2.Done]]⟩)]⟩) (fun a => j9 = .inl a) ?_ ?_
      · intro Q1 jn1 jx1 jr1
        refine c_block ?_; intro Q2 bn2 bx2 br2 bo2
        refine c_loopD (fun (a : Int) (k : Unit) => ⟨kn [(2, .pt 1 v3 0 0), (3, .pt 2 v4 0 0), (4, boo false), (5, int a)], hk [(1, ⟨53, 10, true, true, v3, [[int a1.Master.Entities, int a1.Master.Periods, lst 1 fI a1.Master.Weights, lst 1 (fL 1 fI) a1.Master.Methods, lst 1 (fL 1 fI) a1.Master.Costs, lst 8 GEnt.av a1.Ents, lst 8 GReceipt.av a1.Receipts, lst 9 GSale.av a1.Sales, lst 6 GTransit.av a1.Transits, int a1.Done]]⟩), (2, ⟨53, 10, true, true, v4, [[int a2.Master.Entities, int a2.Master.Periods, lst 1 fI a2.Master.Weights, lst 1 (fL 1 fI) a2.Master.Methods, lst 1 (fL 1 fI) a2.Master.Costs, lst 8 GEnt.av a2.Ents, lst 8 GReceipt.av a2.Receipts, lst 9 GSale.av a2.Sales, lst 6 GTransit.av a2.Transits, int a2.Done]]⟩)]⟩) (fun n (a : Int) => d_ref14_samePapers_L0 a1 a2 n a) (0 : Int) () h1 (fun _ => rfl)
          (leH_kn ⟨⟨_, rfl, (.refl _)⟩, ⟨_, rfl, (.refl _)⟩, ⟨_, rfl, (.refl _)⟩, ⟨_, rfl, (.refl _)⟩, trivial⟩ ⟨⟨_, rfl, (.refl _)⟩, ⟨_, rfl, (.refl _)⟩, trivial⟩) ?_
        rintro n y1_1 _ hm h1 Q3 ln3 lx3 lr3
        replace h1 : d_ref14_samePapers_L0 a1 a2 (n + 1) y1_1 = some _ := h1
        rw [d_ref14_samePapers_L0] at h1
        refine c_show ⟨kn [(2, .pt 1 v3 0 0), (3, .pt 2 v4 0 0), (4, boo false), (5, int y1_1)], hk [(1, ⟨53, 10, true, true, v3, [[int a1.Master.Entities, int a1.Master.Periods, lst 1 fI a1.Master.Weights, lst 1 (fL 1 fI) a1.Master.Methods, lst 1 (fL 1 fI) a1.Master.Costs, lst 8 GEnt.av a1.Ents, lst 8 GReceipt.av a1.Receipts, lst 9 GSale.av a1.Sales, lst 6 GTransit.av a1.Transits, int a1.Done]]⟩), (2, ⟨53, 10, true, true, v4, [[int a2.Master.Entities, int a2.Master.Periods, lst 1 fI a2.Master.Weights, lst 1 (fL 1 fI) a2.Master.Methods, lst 1 (fL 1 fI) a2.Master.Costs, lst 8 GEnt.av a2.Ents, lst 8 GReceipt.av a2.Receipts, lst 9 GSale.av a2.Sales, lst 6 GTransit.av a2.Transits, int a2.Done]]⟩)]⟩ ?_
        refine c_seq ?_
        refine c_seq ?_
        refine c_reg ?_; intro K hK
        refine st rfl rfl rfl (yv_move rfl rfl) ?_
        refine st rfl rfl rfl (yv_fieldAddr rfl fo53_2 rfl (.pt rfl rfl rfl) (.pt _ _ _ _ _)) ?_
        refine st rfl rfl rfl (yv_load rfl sh49 rfl (.pt rfl rfl rfl) rfl) ?_
        refine st rfl rfl rfl (yv_len_sl rfl Try.underlying49 rfl (lst_len _)) ?_
        obtain ⟨x10, e10, h1⟩ := bnd_e h1
        refine st rfl rfl rfl (yv_to (y := boo x10) (yv_lss rfl rfl rfl) (congrArg boo e10)) ?_
        refine rg_nil (hK _ ?_)
        refine c_if (b := x10) rfl ?_ ?_
        · intro hb; subst hb; replace h1 := ct h1
          refine c_skip ?_
          refine c_seq ?_
          refine c_block ?_; intro Q4 bn4 bx4 br4 bo4
          refine c_seq ?_
          refine c_drawE [0, 1, 0, 7, 15, 0, 32, 0, 224, 480, 1023] (fun i => bif Nat.beq i 0 then ([1]) else bif Nat.beq i 1 then ([1]) else bif Nat.beq i 5 then ([2]) else bif Nat.beq i 6 then ([2]) else []) (fun i => [1, 2]) (fun i => true) [0, 1, 2, 3, 4, 5, 6, 7, 8, 9, 10] mixed (by kernel_rfl) ?_; intro K hK
          refine de_pure rfl rfl rfl rfl (fun H hH => yv_fieldAddr rfl fo53_2 rfl (.pt ((hH _ (by decide)).trans rfl) rfl rfl) (.pt _ _ _ _ _)) ?_
          refine de_pure rfl rfl rfl rfl (fun H hH => yv_load rfl sh49 rfl (.pt ((hH _ (by decide)).trans rfl) rfl rfl) rfl) ?_
          refine de_pure rfl rfl rfl rfl (fun H hH => yv_move rfl rfl) ?_
          obtain ⟨x11, e11, h1⟩ := bind_e h1
          refine de_pure rfl rfl rfl rfl (fun H hH => yv_ixT rfl Try.underlying49 sh104 rfl rfl e11) ?_
          refine de_pure rfl rfl rfl rfl (fun H hH => yv_load rfl sh104 rfl (.pp _) rfl) ?_
          refine de_pure rfl rfl rfl rfl (fun H hH => yv_fieldAddr rfl fo53_2 rfl (.pt ((hH _ (by decide)).trans rfl) rfl rfl) (.pt _ _ _ _ _)) ?_
          refine de_pure rfl rfl rfl rfl (fun H hH => yv_load rfl sh49 rfl (.pt ((hH _ (by decide)).trans rfl) rfl rfl) rfl) ?_
          refine de_pure rfl rfl rfl rfl (fun H hH => yv_move rfl rfl) ?_
          obtain ⟨x12, e12, h1⟩ := bind_e h1
          refine de_pure rfl rfl rfl rfl (fun H hH => yv_ixT rfl Try.underlying49 sh104 rfl rfl e12) ?_
          refine de_pure rfl rfl rfl rfl (fun H hH => yv_load rfl sh104 rfl (.pp _) rfl) ?_
          obtain ⟨x13, e13, h1⟩ := bnd_e h1
          refine de_pure rfl rfl rfl rfl (fun H hH => yv_aneq (r' := x13) rfl fl104 rfl rfl (.cons (.int Try.underlying3) sh3 (.cons (.int Try.underlying3) sh3 (.cons (.int Try.underlying3) sh3 (.cons (.int Try.underlying3) sh3 (.cons (.int Try.underlying3) sh3 (.cons (.int Try.underlying3) sh3 (.cons (.int Try.underlying3) sh3 (.cons (.int Try.underlying3) sh3 (.nil _))))))))) ((congrArg Bool.not (GReceipt.eqv (x11 : GReceipt) (x12 : GReceipt))).trans e13)) ?_
          refine de_nil (hK _ ?_)
          refine c_if (b := x13) rfl ?_ ?_
          · intro hb; subst hb; replace h1 := ct h1
            refine c_seq ?_
            refine c_reg ?_; intro K hK
            refine st rfl rfl rfl (yv_assign rfl rfl) ?_
            refine rg_nil (hK _ ?_)
            obtain ⟨c14, hX, hj⟩ := esc_e h1; subst hj; replace h0 := hX.trans (sel_r h0)
            obtain rfl := nxt_e h0
            refine c_ret (br4 _ (lr3 _ (br2 _ (jr1 _ (hret _ _ _ (.tmp rfl .nil) (fun _ _ h => h) ?_)))))
            exact .refl _
          · intro hb; subst hb; replace h1 := cf h1
            refine c_skip ?_
            refine c_nil (bn4 _ ?_)
            refine c_reg ?_; intro K hK
            refine st rfl rfl rfl (yv_move rfl rfl) ?_
            obtain ⟨x15, e15, h1⟩ := bnd_e h1
            refine st rfl rfl rfl (yv_add rfl rfl rfl e15) ?_
            refine st rfl rfl rfl (yv_assign rfl rfl) ?_
            refine rg_nil (hK _ ?_)
            refine c_nil (ln3 _ ⟨x15, (), h1, leH_kn ⟨⟨_, rfl, (.refl _)⟩, ⟨_, rfl, (.refl _)⟩, ⟨_, rfl, (.refl _)⟩, ⟨_, rfl, (.refl _)⟩, trivial⟩ ⟨⟨_, rfl, (.refl _)⟩, ⟨_, rfl, (.refl _)⟩, trivial⟩⟩)
        · intro hb; subst hb; replace h1 := cf h1
          refine c_exit (lx3 _ _ (bx2 _ ?_))
          obtain rfl := brk_e h1
          refine c_nil (jn1 _ ⟨(), (), rfl, leH_kn ⟨⟨_, rfl, (.refl _)⟩, ⟨_, rfl, (.refl _)⟩, ⟨_, rfl, (.refl _)⟩, trivial⟩ ⟨⟨_, rfl, (.refl _)⟩, ⟨_, rfl, (.refl _)⟩, trivial⟩⟩)
      · rintro _ _ rfl
        replace h0 := sel_l h0
        refine c_show ⟨kn [(2, .pt 1 v3 0 0), (3, .pt 2 v4 0 0), (4, boo false)], hk [(1, ⟨53, 10, true, true, v3, [[int a1.Master.Entities, int a1.Master.Periods, lst 1 fI a1.Master.Weights, lst 1 (fL 1 fI) a1.Master.Methods, lst 1 (fL 1 fI) a1.Master.Costs, lst 8 GEnt.av a1.Ents, lst 8 GReceipt.av a1.Receipts, lst 9 GSale.av a1.Sales, lst 6 GTransit.av a1.Transits, int a1.Done]]⟩), (2, ⟨53, 10, true, true, v4, [[int a2.Master.Entities, int a2.Master.Periods, lst 1 fI a2.Master.Weights, lst 1 (fL 1 fI) a2.Master.Methods, lst 1 (fL 1 fI) a2.Master.Costs, lst 8 GEnt.av a2.Ents, lst 8 GReceipt.av a2.Receipts, lst 9 GSale.av a2.Sales, lst 6 GTransit.av a2.Transits, int a2.Done]]⟩)]⟩ ?_
        refine c_seq ?_
        refine c_seq ?_
        refine c_reg ?_; intro K hK
        refine st rfl rfl rfl (yv_assign rfl rfl) ?_
        refine rg_nil (hK _ ?_)
        obtain ⟨j16, h1, h0⟩ := bind_e h0
        refine c_joinL (fun (a : Unit) (k : Unit) => ⟨kn [(2, .pt 1 v3 0 0), (3, .pt 2 v4 0 0), (4, boo false)], hk [(1, ⟨53, 10, true, true, v3, [[int a1.Master.Entities, int a1.Master.Periods, lst 1 fI a1.Master.Weights, lst 1 (fL 1 fI) a1.Master.Methods, lst 1 (fL 1 fI) a1.Master.Costs, lst 8 GEnt.av a1.Ents, lst 8 GReceipt.av a1.Receipts, lst 9 GSale.av a1.Sales, lst 6 GTransit.av a1.Transits, int a1.Done]]⟩), (2, ⟨53, 10, true, true, v4, [[int a2.Master.Entities, int a2.Master.Periods, lst 1 fI a2.Master.Weights, lst 1 (fL 1 fI) a2.Master.Methods, lst 1 (fL 1 fI) a2.Master.Costs, lst 8 GEnt.av a2.Ents, lst 8 GReceipt.av a2.Receipts, lst 9 GSale.av a2.Sales, lst 6 GTransit.av a2.Transits, int a2.Done]]⟩)]⟩) (fun a => j16 = .inl a) ?_ ?_
        · intro Q1 jn1 jx1 jr1
          refine c_block ?_; intro Q2 bn2 bx2 br2 bo2
          refine c_loopD (fun (a : Int) (k : Unit) => ⟨kn [(2, .pt 1 v3 0 0), (3, .pt 2 v4 0 0), (4, boo false), (6, int a)], hk [(1, ⟨53, 10, true, true, v3, [[int a1.Master.Entities, int a1.Master.Periods, lst 1 fI a1.Master.Weights, lst 1 (fL 1 fI) a1.Master.Methods, lst 1 (fL 1 fI) a1.Master.Costs, lst 8 GEnt.av a1.Ents, lst 8 GReceipt.av a1.Receipts, lst 9 GSale.av a1.Sales, lst 6 GTransit.av a1.Transits, int a1.Done]]⟩), (2, ⟨53, 10, true, true, v4, [[int a2.Master.Entities, int a2.Master.Periods, lst 1 fI a2.Master.Weights, lst 1 (fL 1 fI) a2.Master.Methods, lst 1 (fL 1 fI) a2.Master.Costs, lst 8 GEnt.av a2.Ents, lst 8 GReceipt.av a2.Receipts, lst 9 GSale.av a2.Sales, lst 6 GTransit.av a2.Transits, int a2.Done]]⟩)]⟩) (fun n (a : Int) => d_ref14_samePapers_L1 a1 a2 n a) (0 : Int) () h1 (fun _ => rfl)
            (leH_kn ⟨⟨_, rfl, (.refl _)⟩, ⟨_, rfl, (.refl _)⟩, ⟨_, rfl, (.refl _)⟩, ⟨_, rfl, (.refl _)⟩, trivial⟩ ⟨⟨_, rfl, (.refl _)⟩, ⟨_, rfl, (.refl _)⟩, trivial⟩) ?_
          rintro n y3_1 _ hm h1 Q3 ln3 lx3 lr3
          replace h1 : d_ref14_samePapers_L1 a1 a2 (n + 1) y3_1 = some _ := h1
          rw [d_ref14_samePapers_L1] at h1
          refine c_show ⟨kn [(2, .pt 1 v3 0 0), (3, .pt 2 v4 0 0), (4, boo false), (6, int y3_1)], hk [(1, ⟨53, 10, true, true, v3, [[int a1.Master.Entities, int a1.Master.Periods, lst 1 fI a1.Master.Weights, lst 1 (fL 1 fI) a1.Master.Methods, lst 1 (fL 1 fI) a1.Master.Costs, lst 8 GEnt.av a1.Ents, lst 8 GReceipt.av a1.Receipts, lst 9 GSale.av a1.Sales, lst 6 GTransit.av a1.Transits, int a1.Done]]⟩), (2, ⟨53, 10, true, true, v4, [[int a2.Master.Entities, int a2.Master.Periods, lst 1 fI a2.Master.Weights, lst 1 (fL 1 fI) a2.Master.Methods, lst 1 (fL 1 fI) a2.Master.Costs, lst 8 GEnt.av a2.Ents, lst 8 GReceipt.av a2.Receipts, lst 9 GSale.av a2.Sales, lst 6 GTransit.av a2.Transits, int a2.Done]]⟩)]⟩ ?_
          refine c_seq ?_
          refine c_seq ?_
          refine c_reg ?_; intro K hK
          refine st rfl rfl rfl (yv_move rfl rfl) ?_
          refine st rfl rfl rfl (yv_fieldAddr rfl fo53_3 rfl (.pt rfl rfl rfl) (.pt _ _ _ _ _)) ?_
          refine st rfl rfl rfl (yv_load rfl sh50 rfl (.pt rfl rfl rfl) rfl) ?_
          refine st rfl rfl rfl (yv_len_sl rfl Try.underlying50 rfl (lst_len _)) ?_
          obtain ⟨x17, e17, h1⟩ := bnd_e h1
          refine st rfl rfl rfl (yv_to (y := boo x17) (yv_lss rfl rfl rfl) (congrArg boo e17)) ?_
          refine rg_nil (hK _ ?_)
          refine c_if (b := x17) rfl ?_ ?_
          · intro hb; subst hb; replace h1 := ct h1
            refine c_skip ?_
            refine c_seq ?_
            refine c_block ?_; intro Q4 bn4 bx4 br4 bo4
            refine c_seq ?_
            refine c_drawE [0, 1, 0, 7, 15, 0, 32, 0, 224, 480, 1023] (fun i => bif Nat.beq i 0 then ([1]) else bif Nat.beq i 1 then ([1]) else bif Nat.beq i 5 then ([2]) else bif Nat.beq i 6 then ([2]) else []) (fun i => [1, 2]) (fun i => true) [0, 1, 2, 3, 4, 5, 6, 7, 8, 9, 10] mixed (by kernel_rfl) ?_; intro K hK
            refine de_pure rfl rfl rfl rfl (fun H hH => yv_fieldAddr rfl fo53_3 rfl (.pt ((hH _ (by decide)).trans rfl) rfl rfl) (.pt _ _ _ _ _)) ?_
            refine de_pure rfl rfl rfl rfl (fun H hH => yv_load rfl sh50 rfl (.pt ((hH _ (by decide)).trans rfl) rfl rfl) rfl) ?_
            refine de_pure rfl rfl rfl rfl (fun H hH => yv_move rfl rfl) ?_
            obtain ⟨x18, e18, h1⟩ := bind_e h1
            refine de_pure rfl rfl rfl rfl (fun H hH => yv_ixT rfl Try.underlying50 sh106 rfl rfl e18) ?_
            refine de_pure rfl rfl rfl rfl (fun H hH => yv_load rfl sh106 rfl (.pp _) rfl) ?_
            refine de_pure rfl rfl rfl rfl (fun H hH => yv_fieldAddr rfl fo53_3 rfl (.pt ((hH _ (by decide)).trans rfl) rfl rfl) (.pt _ _ _ _ _)) ?_
            refine de_pure rfl rfl rfl rfl (fun H hH => yv_load rfl sh50 rfl (.pt ((hH _ (by decide)).trans rfl) rfl rfl) rfl) ?_
            refine de_pure rfl rfl rfl rfl (fun H hH => yv_move rfl rfl) ?_
            obtain ⟨x19, e19, h1⟩ := bind_e h1
            refine de_pure rfl rfl rfl rfl (fun H hH => yv_ixT rfl Try.underlying50 sh106 rfl rfl e19) ?_
            refine de_pure rfl rfl rfl rfl (fun H hH => yv_load rfl sh106 rfl (.pp _) rfl) ?_
            obtain ⟨x20, e20, h1⟩ := bnd_e h1
            refine de_pure rfl rfl rfl rfl (fun H hH => yv_aneq (r' := x20) rfl fl106 rfl rfl (.cons (.int Try.underlying3) sh3 (.cons (.int Try.underlying3) sh3 (.cons (.int Try.underlying3) sh3 (.cons (.int Try.underlying3) sh3 (.cons (.int Try.underlying3) sh3 (.cons (.int Try.underlying3) sh3 (.cons (.int Try.underlying3) sh3 (.cons (.int Try.underlying3) sh3 (.cons (.bool Try.underlying4) sh4 (.nil _)))))))))) ((congrArg Bool.not (GSale.eqv (x18 : GSale) (x19 : GSale))).trans e20)) ?_
            refine de_nil (hK _ ?_)
            refine c_if (b := x20) rfl ?_ ?_
            · intro hb; subst hb; replace h1 := ct h1
              refine c_seq ?_
              refine c_reg ?_; intro K hK
              refine st rfl rfl rfl (yv_assign rfl rfl) ?_
              refine rg_nil (hK _ ?_)
              obtain ⟨c21, hX, hj⟩ := esc_e h1; subst hj; replace h0 := hX.trans (sel_r h0)
              obtain rfl := nxt_e h0
              refine c_ret (br4 _ (lr3 _ (br2 _ (jr1 _ (hret _ _ _ (.tmp rfl .nil) (fun _ _ h => h) ?_)))))
              exact .refl _
            · intro hb; subst hb; replace h1 := cf h1
              refine c_skip ?_
              refine c_nil (bn4 _ ?_)
              refine c_reg ?_; intro K hK
              refine st rfl rfl rfl (yv_move rfl rfl) ?_
              obtain ⟨x22, e22, h1⟩ := bnd_e h1
              refine st rfl rfl rfl (yv_add rfl rfl rfl e22) ?_
              refine st rfl rfl rfl (yv_assign rfl rfl) ?_
              refine rg_nil (hK _ ?_)
              refine c_nil (ln3 _ ⟨x22, (), h1, leH_kn ⟨⟨_, rfl, (.refl _)⟩, ⟨_, rfl, (.refl _)⟩, ⟨_, rfl, (.refl _)⟩, ⟨_, rfl, (.refl _)⟩, trivial⟩ ⟨⟨_, rfl, (.refl _)⟩, ⟨_, rfl, (.refl _)⟩, trivial⟩⟩)
          · intro hb; subst hb; replace h1 := cf h1
            refine c_exit (lx3 _ _ (bx2 _ ?_))
            obtain rfl := brk_e h1
            refine c_nil (jn1 _ ⟨(), (), rfl, leH_kn ⟨⟨_, rfl, (.refl _)⟩, ⟨_, rfl, (.refl _)⟩, ⟨_, rfl, (.refl _)⟩, trivial⟩ ⟨⟨_, rfl, (.refl _)⟩, ⟨_, rfl, (.refl _)⟩, trivial⟩⟩)
        · rintro _ _ rfl
          replace h0 := sel_l h0
          refine c_show ⟨kn [(2, .pt 1 v3 0 0), (3, .pt 2 v4 0 0), (4, boo false)], hk [(1, ⟨53, 10, true, true, v3, [[int a1.Master.Entities, int a1.Master.Periods, lst 1 fI a1.Master.Weights, lst 1 (fL 1 fI) a1.Master.Methods, lst 1 (fL 1 fI) a1.Master.Costs, lst 8 GEnt.av a1.Ents, lst 8 GReceipt.av a1.Receipts, lst 9 GSale.av a1.Sales, lst 6 GTransit.av a1.Transits, int a1.Done]]⟩), (2, ⟨53, 10, true, true, v4, [[int a2.Master.Entities, int a2.Master.Periods, lst 1 fI a2.Master.Weights, lst 1 (fL 1 fI) a2.Master.Methods, lst 1 (fL 1 fI) a2.Master.Costs, lst 8 GEnt.av a2.Ents, lst 8 GReceipt.av a2.Receipts, lst 9 GSale.av a2.Sales, lst 6 GTransit.av a2.Transits, int a2.Done]]⟩)]⟩ ?_
          refine c_seq ?_
          refine c_seq ?_
          refine c_reg ?_; intro K hK
          refine st rfl rfl rfl (yv_assign rfl rfl) ?_
          refine rg_nil (hK _ ?_)
          obtain ⟨j23, h1, h0⟩ := bind_e h0
          refine c_joinL (fun (a : Unit) (k : Unit) => ⟨kn [(4, boo false)], hk []⟩) (fun a => j23 = .inl a) ?_ ?_
          · intro Q1 jn1 jx1 jr1
            refine c_block ?_; intro Q2 bn2 bx2 br2 bo2
            refine c_loopD (fun (a : Int) (k : Unit) => ⟨kn [(2, .pt 1 v3 0 0), (3, .pt 2 v4 0 0), (4, boo false), (7, int a)], hk [(1, ⟨53, 10, true, true, v3, [[int a1.Master.Entities, int a1.Master.Periods, lst 1 fI a1.Master.Weights, lst 1 (fL 1 fI) a1.Master.Methods, lst 1 (fL 1 fI) a1.Master.Costs, lst 8 GEnt.av a1.Ents, lst 8 GReceipt.av a1.Receipts, lst 9 GSale.av a1.Sales, lst 6 GTransit.av a1.Transits, int a1.Done]]⟩), (2, ⟨53, 10, true, true, v4, [[int a2.Master.Entities, int a2.Master.Periods, lst 1 fI a2.Master.Weights, lst 1 (fL 1 fI) a2.Master.Methods, lst 1 (fL 1 fI) a2.Master.Costs, lst 8 GEnt.av a2.Ents, lst 8 GReceipt.av a2.Receipts, lst 9 GSale.av a2.Sales, lst 6 GTransit.av a2.Transits, int a2.Done]]⟩)]⟩) (fun n (a : Int) => d_ref14_samePapers_L2 a1 a2 n a) (0 : Int) () h1 (fun _ => rfl)
              (leH_kn ⟨⟨_, rfl, (.refl _)⟩, ⟨_, rfl, (.refl _)⟩, ⟨_, rfl, (.refl _)⟩, ⟨_, rfl, (.refl _)⟩, trivial⟩ ⟨⟨_, rfl, (.refl _)⟩, ⟨_, rfl, (.refl _)⟩, trivial⟩) ?_
            rintro n y5_1 _ hm h1 Q3 ln3 lx3 lr3
            replace h1 : d_ref14_samePapers_L2 a1 a2 (n + 1) y5_1 = some _ := h1
            rw [d_ref14_samePapers_L2] at h1
            refine c_show ⟨kn [(2, .pt 1 v3 0 0), (3, .pt 2 v4 0 0), (4, boo false), (7, int y5_1)], hk [(1, ⟨53, 10, true, true, v3, [[int a1.Master.Entities, int a1.Master.Periods, lst 1 fI a1.Master.Weights, lst 1 (fL 1 fI) a1.Master.Methods, lst 1 (fL 1 fI) a1.Master.Costs, lst 8 GEnt.av a1.Ents, lst 8 GReceipt.av a1.Receipts, lst 9 GSale.av a1.Sales, lst 6 GTransit.av a1.Transits, int a1.Done]]⟩), (2, ⟨53, 10, true, true, v4, [[int a2.Master.Entities, int a2.Master.Periods, lst 1 fI a2.Master.Weights, lst 1 (fL 1 fI) a2.Master.Methods, lst 1 (fL 1 fI) a2.Master.Costs, lst 8 GEnt.av a2.Ents, lst 8 GReceipt.av a2.Receipts, lst 9 GSale.av a2.Sales, lst 6 GTransit.av a2.Transits, int a2.Done]]⟩)]⟩ ?_
            refine c_seq ?_
            refine c_seq ?_
            refine c_reg ?_; intro K hK
            refine st rfl rfl rfl (yv_move rfl rfl) ?_
            refine st rfl rfl rfl (yv_fieldAddr rfl fo53_4 rfl (.pt rfl rfl rfl) (.pt _ _ _ _ _)) ?_
            refine st rfl rfl rfl (yv_load rfl sh51 rfl (.pt rfl rfl rfl) rfl) ?_
            refine st rfl rfl rfl (yv_len_sl rfl Try.underlying51 rfl (lst_len _)) ?_
            obtain ⟨x24, e24, h1⟩ := bnd_e h1
            refine st rfl rfl rfl (yv_to (y := boo x24) (yv_lss rfl rfl rfl) (congrArg boo e24)) ?_
            refine rg_nil (hK _ ?_)
            refine c_if (b := x24) rfl ?_ ?_
            · intro hb; subst hb; replace h1 := ct h1
              refine c_skip ?_
              refine c_seq ?_
              refine c_block ?_; intro Q4 bn4 bx4 br4 bo4
              refine c_seq ?_
              refine c_drawE [0, 1, 0, 7, 15, 0, 32, 0, 224, 480, 1023] (fun i => bif Nat.beq i 0 then ([1]) else bif Nat.beq i 1 then ([1]) else bif Nat.beq i 5 then ([2]) else bif Nat.beq i 6 then ([2]) else []) (fun i => [1, 2]) (fun i => true) [0, 1, 2, 3, 4, 5, 6, 7, 8, 9, 10] mixed (by kernel_rfl) ?_; intro K hK
              refine de_pure rfl rfl rfl rfl (fun H hH => yv_fieldAddr rfl fo53_4 rfl (.pt ((hH _ (by decide)).trans rfl) rfl rfl) (.pt _ _ _ _ _)) ?_
              refine de_pure rfl rfl rfl rfl (fun H hH => yv_load rfl sh51 rfl (.pt ((hH _ (by decide)).trans rfl) rfl rfl) rfl) ?_
              refine de_pure rfl rfl rfl rfl (fun H hH => yv_move rfl rfl) ?_
              obtain ⟨x25, e25, h1⟩ := bind_e h1
              refine de_pure rfl rfl rfl rfl (fun H hH => yv_ixT rfl Try.underlying51 sh108 rfl rfl e25) ?_
              refine de_pure rfl rfl rfl rfl (fun H hH => yv_load rfl sh108 rfl (.pp _) rfl) ?_
              refine de_pure rfl rfl rfl rfl (fun H hH => yv_fieldAddr rfl fo53_4 rfl (.pt ((hH _ (by decide)).trans rfl) rfl rfl) (.pt _ _ _ _ _)) ?_
              refine de_pure rfl rfl rfl rfl (fun H hH => yv_load rfl sh51 rfl (.pt ((hH _ (by decide)).trans rfl) rfl rfl) rfl) ?_
              refine de_pure rfl rfl rfl rfl (fun H hH => yv_move rfl rfl) ?_
              obtain ⟨x26, e26, h1⟩ := bind_e h1
              refine de_pure rfl rfl rfl rfl (fun H hH => yv_ixT rfl Try.underlying51 sh108 rfl rfl e26) ?_
              refine de_pure rfl rfl rfl rfl (fun H hH => yv_load rfl sh108 rfl (.pp _) rfl) ?_
              obtain ⟨x27, e27, h1⟩ := bnd_e h1
              refine de_pure rfl rfl rfl rfl (fun H hH => yv_aneq (r' := x27) rfl fl108 rfl rfl (.cons (.int Try.underlying3) sh3 (.cons (.int Try.underlying3) sh3 (.cons (.int Try.underlying3) sh3 (.cons (.int Try.underlying3) sh3 (.cons (.int Try.underlying3) sh3 (.cons (.int Try.underlying3) sh3 (.nil _))))))) ((congrArg Bool.not (GTransit.eqv (x25 : GTransit) (x26 : GTransit))).trans e27)) ?_
              refine de_nil (hK _ ?_)
              refine c_if (b := x27) rfl ?_ ?_
              · intro hb; subst hb; replace h1 := ct h1
                refine c_seq ?_
                refine c_reg ?_; intro K hK
                refine st rfl rfl rfl (yv_assign rfl rfl) ?_
                refine rg_nil (hK _ ?_)
                obtain ⟨c28, hX, hj⟩ := esc_e h1; subst hj; replace h0 := hX.trans (sel_r h0)
                obtain rfl := nxt_e h0
                refine c_ret (br4 _ (lr3 _ (br2 _ (jr1 _ (hret _ _ _ (.tmp rfl .nil) (fun _ _ h => h) ?_)))))
                exact .refl _
              · intro hb; subst hb; replace h1 := cf h1
                refine c_skip ?_
                refine c_nil (bn4 _ ?_)
                refine c_reg ?_; intro K hK
                refine st rfl rfl rfl (yv_move rfl rfl) ?_
                obtain ⟨x29, e29, h1⟩ := bnd_e h1
                refine st rfl rfl rfl (yv_add rfl rfl rfl e29) ?_
                refine st rfl rfl rfl (yv_assign rfl rfl) ?_
                refine rg_nil (hK _ ?_)
                refine c_nil (ln3 _ ⟨x29, (), h1, leH_kn ⟨⟨_, rfl, (.refl _)⟩, ⟨_, rfl, (.refl _)⟩, ⟨_, rfl, (.refl _)⟩, ⟨_, rfl, (.refl _)⟩, trivial⟩ ⟨⟨_, rfl, (.refl _)⟩, ⟨_, rfl, (.refl _)⟩, trivial⟩⟩)
            · intro hb; subst hb; replace h1 := cf h1
              refine c_exit (lx3 _ _ (bx2 _ ?_))
              obtain rfl := brk_e h1
              refine c_nil (jn1 _ ⟨(), (), rfl, leH_kn ⟨⟨_, rfl, (.refl _)⟩, trivial⟩ trivial⟩)
          · rintro _ _ rfl
            replace h0 := sel_l h0
            refine c_show ⟨kn [(4, boo false)], hk []⟩ ?_
            refine c_seq ?_
            refine c_reg ?_; intro K hK
            refine st rfl rfl rfl (yv_assign rfl rfl) ?_
            refine rg_nil (hK _ ?_)
            obtain rfl := nxt_e h0
            refine c_ret (hret _ _ _ (.tmp rfl .nil) (fun _ _ h => h) ?_)
            exact .refl _
def d_ref09_SameLayer (a1 : GLayer) (a2 : GLayer) : Option (Bool) :=
(show Option (Bool) from
bnd (decide (a1.Qty = a2.Qty)) fun (x6 : Bool) =>
cond x6 (bnd (decide (a1.Value = a2.Value)) fun (x7 : Bool) =>
cond x7 (bnd (decide (a1.Profit = a2.Profit)) fun (x8 : Bool) =>
some (x8 : Bool)) (some (false : Bool))) (some (false : Bool))).bind <| fun (y0_1 : Bool) =>
some ((y0_1 : Bool))
theorem d_ref09_SameLayer_c {a1 : GLayer} {a2 : GLayer} {r : Bool} (h0 : d_ref09_SameLayer a1 a2 = some r) : PP Try.prog 75 [.agg (GLayer.av a1), .agg (GLayer.av a2)] (fun y => y = boo r) := by
  unfold d_ref09_SameLayer at h0
  refine pp_of_pc (R0 := fun y H => Cv (frzH H) y (boo r)) ?_ (fun y H hc => ⟨_, rfl, pvB r, hc⟩)
  refine pc_of' (c := _) Try.func75 rfl rfl ?_; intro Q hret hnorm
  refine c_seq ?_
  refine c_reg ?_; intro K hK
  refine se rfl rfl rfl (yl_box 1 .any rfl rfl rfl) ?_; rintro _ _ ⟨v3, -, rfl, rfl⟩
  refine se rfl rfl rfl (yl_box 2 .any rfl rfl rfl) ?_; rintro _ _ ⟨v4, -, rfl, rfl⟩
  refine st rfl rfl rfl (yv_assign rfl rfl) ?_
  refine rg_nil (hK _ ?_)
  refine c_seq ?_
  obtain ⟨j5, h1, h0⟩ := bind_e h0
  refine c_regL (fun (a : Bool) (k : Unit) => ⟨kn [(4, boo a)], hk []⟩) (fun a => a = j5) ?_ ?_
  · intro K hK
    refine st rfl rfl rfl (yv_fieldAddr rfl fo119_0 rfl (.pt rfl rfl rfl) (.pt _ _ _ _ _)) ?_
    refine st rfl rfl rfl (yv_load rfl sh3 rfl (.pt rfl rfl rfl) rfl) ?_
    refine st rfl rfl rfl (yv_fieldAddr rfl fo119_0 rfl (.pt rfl rfl rfl) (.pt _ _ _ _ _)) ?_
    refine st rfl rfl rfl (yv_load rfl sh3 rfl (.pt rfl rfl rfl) rfl) ?_
    obtain ⟨x6, e6, h1⟩ := bnd_e h1
    refine st rfl rfl rfl (yv_to (y := boo x6) (yv_eql rfl rfl rfl) (congrArg boo e6)) ?_
    refine st rfl rfl rfl (yv_move rfl rfl) ?_
    refine scases 10 rfl ?_ ?_
    · intro hb; subst hb; replace h1 := ct h1
      refine st rfl rfl rfl (yv_fieldAddr rfl fo119_1 rfl (.pt rfl rfl rfl) (.pt _ _ _ _ _)) ?_
      refine st rfl rfl rfl (yv_load rfl sh3 rfl (.pt rfl rfl rfl) rfl) ?_
      refine st rfl rfl rfl (yv_fieldAddr rfl fo119_1 rfl (.pt rfl rfl rfl) (.pt _ _ _ _ _)) ?_
      refine st rfl rfl rfl (yv_load rfl sh3 rfl (.pt rfl rfl rfl) rfl) ?_
      obtain ⟨x7, e7, h1⟩ := bnd_e h1
      refine st rfl rfl rfl (yv_to (y := boo x7) (yv_eql rfl rfl rfl) (congrArg boo e7)) ?_
      refine st rfl rfl rfl (yv_pick rfl rfl (fun _ => rfl) (fun _ => rfl) rfl) ?_
      refine st rfl rfl rfl (yv_move rfl rfl) ?_
      refine scases 17 rfl ?_ ?_
      · intro hb; subst hb; replace h1 := ct h1
        refine st rfl rfl rfl (yv_fieldAddr rfl fo119_2 rfl (.pt rfl rfl rfl) (.pt _ _ _ _ _)) ?_
        refine st rfl rfl rfl (yv_load rfl sh3 rfl (.pt rfl rfl rfl) rfl) ?_
        refine st rfl rfl rfl (yv_fieldAddr rfl fo119_2 rfl (.pt rfl rfl rfl) (.pt _ _ _ _ _)) ?_
        refine st rfl rfl rfl (yv_load rfl sh3 rfl (.pt rfl rfl rfl) rfl) ?_
        obtain ⟨x8, e8, h1⟩ := bnd_e h1
        refine st rfl rfl rfl (yv_to (y := boo x8) (yv_eql rfl rfl rfl) (congrArg boo e8)) ?_
        refine st rfl rfl rfl (yv_pick rfl rfl (fun _ => rfl) (fun _ => rfl) rfl) ?_
        refine st rfl rfl rfl (yv_assign rfl rfl) ?_
        obtain rfl := nxt_e h1
        refine rg_nil (hK _ ⟨x8, (), rfl, leH_kn ⟨⟨_, rfl, (.refl _)⟩, trivial⟩ trivial⟩)
      · intro hb; subst hb; replace h1 := cf h1
        refine sk rfl rfl rfl ?_
        refine sk rfl rfl rfl ?_
        refine sk rfl rfl rfl ?_
        refine sk rfl rfl rfl ?_
        refine sk rfl rfl rfl ?_
        refine st rfl rfl rfl (yv_pick rfl rfl (fun _ => rfl) (fun _ => rfl) rfl) ?_
        refine st rfl rfl rfl (yv_assign rfl rfl) ?_
        obtain rfl := nxt_e h1
        refine rg_nil (hK _ ⟨false, (), rfl, leH_kn ⟨⟨_, rfl, (.refl _)⟩, trivial⟩ trivial⟩)
    · intro hb; subst hb; replace h1 := cf h1
      refine sk rfl rfl rfl ?_
      refine sk rfl rfl rfl ?_
      refine sk rfl rfl rfl ?_
      refine sk rfl rfl rfl ?_
      refine sk rfl rfl rfl ?_
      refine st rfl rfl rfl (yv_pick rfl rfl (fun _ => rfl) (fun _ => rfl) rfl) ?_
      refine st rfl rfl rfl (yv_move rfl rfl) ?_
      refine sk rfl rfl rfl ?_
      refine sk rfl rfl rfl ?_
      refine sk rfl rfl rfl ?_
      refine sk rfl rfl rfl ?_
      refine sk rfl rfl rfl ?_
      refine st rfl rfl rfl (yv_pick rfl rfl (fun _ => rfl) (fun _ => rfl) rfl) ?_
      refine st rfl rfl rfl (yv_assign rfl rfl) ?_
      obtain rfl := nxt_e h1
      refine rg_nil (hK _ ⟨false, (), rfl, leH_kn ⟨⟨_, rfl, (.refl _)⟩, trivial⟩ trivial⟩)
  · rintro y0_1 _ rfl
    refine c_show ⟨kn [(4, boo y0_1)], hk []⟩ ?_
    obtain rfl := nxt_e h0
    refine c_ret (hret _ _ _ (.tmp rfl .nil) (fun _ _ h => h) ?_)
    exact .refl _
def d_ref09_Same_L0 (a1 : List GLayer) (a2 : List GLayer) : Nat → Int → Option ((Unit) ⊕ (Bool))
  | 0, _ => none
  | n + 1, y0_1 =>
    bnd (decide (y0_1 < (a1.length : Int))) fun (x5 : Bool) =>
    cond x5 ((ix a1 y0_1).bind fun (x6 : GLayer) =>
    (ix a2 y0_1).bind fun (x7 : GLayer) =>
    (d_ref09_SameLayer x6 x7).bind fun (x8 : Bool) =>
    bnd (!x8) fun (x9 : Bool) =>
    cond x9 (esc (some ((false : Bool)))) (bnd (w64 (y0_1 + 1)) fun (x11 : Int) =>
    d_ref09_Same_L0 a1 a2 n (x11 : Int))) (brk ())
def d_ref09_Same (n : Nat) (a1 : List GLayer) (a2 : List GLayer) : Option (Bool) :=
bnd (decide ((a1.length : Int) ≠ (a2.length : Int))) fun (x3 : Bool) =>
cond x3 (some ((false : Bool))) ((show Option ((Unit) ⊕ (Bool)) from
d_ref09_Same_L0 a1 a2 n (0 : Int)).bind <| sel <| fun (_ : Unit) =>
some ((true : Bool)))
theorem d_ref09_Same_c {n : Nat} {a1 : List GLayer} {a2 : List GLayer} {r : Bool} (h0 : d_ref09_Same n a1 a2 = some r) : PP Try.prog 74 [lst 3 GLayer.av a1, lst 3 GLayer.av a2] (fun y => y = boo r) := by
  unfold d_ref09_Same at h0
  refine pp_of_pc (R0 := fun y H => Cv (frzH H) y (boo r)) ?_ (fun y H hc => ⟨_, rfl, pvB r, hc⟩)
  refine pc_of' (c := _) Try.func74 rfl rfl ?_; intro Q hret hnorm
  refine c_seq ?_
  refine c_reg ?_; intro K hK
  refine st rfl rfl rfl (yv_assign rfl rfl) ?_
  refine rg_nil (hK _ ?_)
  refine c_seq ?_
  refine c_seq ?_
  refine c_reg ?_; intro K hK
  refine st rfl rfl rfl (yv_move rfl rfl) ?_
  refine st rfl rfl rfl (yv_len_sl rfl Try.underlying69 rfl (lst_len _)) ?_
  refine st rfl rfl rfl (yv_move rfl rfl) ?_
  refine st rfl rfl rfl (yv_len_sl rfl Try.underlying69 rfl (lst_len _)) ?_
  obtain ⟨x3, e3, h0⟩ := bnd_e h0
  refine st rfl rfl rfl (yv_to (y := boo x3) (yv_neq rfl rfl rfl) (congrArg boo e3)) ?_
  refine rg_nil (hK _ ?_)
  refine c_if (b := x3) rfl ?_ ?_
  · intro hb; subst hb; replace h0 := ct h0
    refine c_seq ?_
    refine c_reg ?_; intro K hK
    refine st rfl rfl rfl (yv_assign rfl rfl) ?_
    refine rg_nil (hK _ ?_)
    obtain rfl := nxt_e h0
    refine c_ret (hret _ _ _ (.tmp rfl .nil) (fun _ _ h => h) ?_)
    exact .refl _
  · intro hb; subst hb; replace h0 := cf h0
    refine c_skip ?_
    refine c_seq ?_
    refine c_seq ?_
    refine c_reg ?_; intro K hK
    refine st rfl rfl rfl (yv_assign rfl rfl) ?_
    refine rg_nil (hK _ ?_)
    obtain ⟨j4, h1, h0⟩ := bind_e h0
    refine c_joinL (fun (a : Unit) (k : Unit) => ⟨kn [(4, boo false)], hk []⟩) (fun a => j4 = .inl a) ?_ ?_
    · intro Q1 jn1 jx1 jr1
      refine c_block ?_; intro Q2 bn2 bx2 br2 bo2
      refine c_loopD (fun (a : Int) (k : Unit) => ⟨kn [(0, lst 3 GLayer.av a1), (1, lst 3 GLayer.av a2), (4, boo false), (5, int a)], hk []⟩) (fun n (a : Int) => d_ref09_Same_L0 a1 a2 n a) (0 : Int) () h1 (fun _ => rfl)
        (leH_kn ⟨⟨_, rfl, (.refl _)⟩, ⟨_, rfl, (.refl _)⟩, ⟨_, rfl, (.refl _)⟩, ⟨_, rfl, (.refl _)⟩, trivial⟩ trivial) ?_
      rintro n y0_1 _ hm h1 Q3 ln3 lx3 lr3
      replace h1 : d_ref09_Same_L0 a1 a2 (n + 1) y0_1 = some _ := h1
      rw [d_ref09_Same_L0] at h1
      refine c_show ⟨kn [(0, lst 3 GLayer.av a1), (1, lst 3 GLayer.av a2), (4, boo false), (5, int y0_1)], hk []⟩ ?_
      refine c_seq ?_
      refine c_seq ?_
      refine c_reg ?_; intro K hK
      refine st rfl rfl rfl (yv_move rfl rfl) ?_
      refine st rfl rfl rfl (yv_move rfl rfl) ?_
      refine st rfl rfl rfl (yv_len_sl rfl Try.underlying69 rfl (lst_len _)) ?_
      obtain ⟨x5, e5, h1⟩ := bnd_e h1
      refine st rfl rfl rfl (yv_to (y := boo x5) (yv_lss rfl rfl rfl) (congrArg boo e5)) ?_
      refine rg_nil (hK _ ?_)
      refine c_if (b := x5) rfl ?_ ?_
      · intro hb; subst hb; replace h1 := ct h1
        refine c_skip ?_
        refine c_seq ?_
        refine c_block ?_; intro Q4 bn4 bx4 br4 bo4
        refine c_seq ?_
        refine c_drawE [0, 0, 3, 7, 0, 0, 48, 112, 255, 511] (fun i => []) (fun i => []) (fun i => true) [0, 1, 2, 3, 4, 5, 6, 7, 8, 9] mixed (by kernel_rfl) ?_; intro K hK
        refine de_pure rfl rfl rfl rfl (fun H hH => yv_move rfl rfl) ?_
        refine de_pure rfl rfl rfl rfl (fun H hH => yv_move rfl rfl) ?_
        obtain ⟨x6, e6, h1⟩ := bind_e h1
        refine de_pure rfl rfl rfl rfl (fun H hH => yv_ixT rfl Try.underlying69 sh119 rfl rfl e6) ?_
        refine de_pure rfl rfl rfl rfl (fun H hH => yv_load rfl sh119 rfl (.pp _) rfl) ?_
        refine de_pure rfl rfl rfl rfl (fun H hH => yv_move rfl rfl) ?_
        refine de_pure rfl rfl rfl rfl (fun H hH => yv_move rfl rfl) ?_
        obtain ⟨x7, e7, h1⟩ := bind_e h1
        refine de_pure rfl rfl rfl rfl (fun H hH => yv_ixT rfl Try.underlying69 sh119 rfl rfl e7) ?_
        refine de_pure rfl rfl rfl rfl (fun H hH => yv_load rfl sh119 rfl (.pp _) rfl) ?_
        obtain ⟨x8, e8, h1⟩ := bind_e h1
        refine de_pure rfl rfl rfl rfl (fun H hH => yv_callP rfl rfl (.cons rfl (.cons rfl .nil)) cal75 (CvL.refl _) (d_ref09_SameLayer_c e8)) ?_
        obtain ⟨x9, e9, h1⟩ := bnd_e h1
        refine de_pure rfl rfl rfl rfl (fun H hH => yv_not rfl rfl e9) ?_
        refine de_nil (hK _ ?_)
        refine c_if (b := x9) rfl ?_ ?_
        · intro hb; subst hb; replace h1 := ct h1
          refine c_seq ?_
          refine c_reg ?_; intro K hK
          refine st rfl rfl rfl (yv_assign rfl rfl) ?_
          refine rg_nil (hK _ ?_)
          obtain ⟨c10, hX, hj⟩ := esc_e h1; subst hj; replace h0 := hX.trans (sel_r h0)
          obtain rfl := nxt_e h0
          refine c_ret (br4 _ (lr3 _ (br2 _ (jr1 _ (hret _ _ _ (.tmp rfl .nil) (fun _ _ h => h) ?_)))))
          exact .refl _
        · intro hb; subst hb; replace h1 := cf h1
          refine c_skip ?_
          refine c_nil (bn4 _ ?_)
          refine c_reg ?_; intro K hK
          refine st rfl rfl rfl (yv_move rfl rfl) ?_
          obtain ⟨x11, e11, h1⟩ := bnd_e h1
          refine st rfl rfl rfl (yv_add rfl rfl rfl e11) ?_
          refine st rfl rfl rfl (yv_assign rfl rfl) ?_
          refine rg_nil (hK _ ?_)
          refine c_nil (ln3 _ ⟨x11, (), h1, leH_kn ⟨⟨_, rfl, (.refl _)⟩, ⟨_, rfl, (.refl _)⟩, ⟨_, rfl, (.refl _)⟩, ⟨_, rfl, (.refl _)⟩, trivial⟩ trivial⟩)
      · intro hb; subst hb; replace h1 := cf h1
        refine c_exit (lx3 _ _ (bx2 _ ?_))
        obtain rfl := brk_e h1
        refine c_nil (jn1 _ ⟨(), (), rfl, leH_kn ⟨⟨_, rfl, (.refl _)⟩, trivial⟩ trivial⟩)
    · rintro _ _ rfl
      replace h0 := sel_l h0
      refine c_show ⟨kn [(4, boo false)], hk []⟩ ?_
      refine c_seq ?_
      refine c_reg ?_; intro K hK
      refine st rfl rfl rfl (yv_assign rfl rfl) ?_
      refine rg_nil (hK _ ?_)
      obtain rfl := nxt_e h0
      refine c_ret (hret _ _ _ (.tmp rfl .nil) (fun _ _ h => h) ?_)
      exact .refl _
def d_ref11_Same (n : Nat) (a1 : GPool) (a2 : GPool) : Option (Bool) :=
(show Option (Bool) from
(d_ref09_Same n a1.Layers a2.Layers).bind fun (x6 : Bool) =>
cond x6 (bnd (decide (a1.Pend.a0 = a2.Pend.a0)) fun (x7 : Bool) =>
cond x7 (bnd (decide (a1.Pend.a1 = a2.Pend.a1)) fun (x8 : Bool) =>
cond x8 (bnd (decide (a1.Pend.a2 = a2.Pend.a2)) fun (x9 : Bool) =>
some (x9 : Bool)) (some (false : Bool))) (some (false : Bool))) (some (false : Bool))).bind <| fun (y0_1 : Bool) =>
some ((y0_1 : Bool))
theorem d_ref11_Same_c {n : Nat} {a1 : GPool} {a2 : GPool} {r : Bool} (h0 : d_ref11_Same n a1 a2 = some r) : PP Try.prog 69 [.agg (GPool.av a1), .agg (GPool.av a2)] (fun y => y = boo r) := by
  unfold d_ref11_Same at h0
  refine pp_of_pc (R0 := fun y H => Cv (frzH H) y (boo r)) ?_ (fun y H hc => ⟨_, rfl, pvB r, hc⟩)
  refine pc_of' (c := _) Try.func69 rfl rfl ?_; intro Q hret hnorm
  refine c_seq ?_
  refine c_reg ?_; intro K hK
  refine se rfl rfl rfl (yl_box 1 .any rfl rfl rfl) ?_; rintro _ _ ⟨v3, -, rfl, rfl⟩
  refine se rfl rfl rfl (yl_box 2 .any rfl rfl rfl) ?_; rintro _ _ ⟨v4, -, rfl, rfl⟩
  refine st rfl rfl rfl (yv_assign rfl rfl) ?_
  refine rg_nil (hK _ ?_)
  refine c_seq ?_
  obtain ⟨j5, h1, h0⟩ := bind_e h0
  refine c_regL (fun (a : Bool) (k : Unit) => ⟨kn [(4, boo a)], hk []⟩) (fun a => a = j5) ?_ ?_
  · intro K hK
    refine st rfl rfl rfl (yv_fieldAddr rfl fo72_0 rfl (.pt rfl rfl rfl) (.pt _ _ _ _ _)) ?_
    refine st rfl rfl rfl (yv_load rfl sh69 rfl (.pt rfl rfl rfl) rfl) ?_
    refine st rfl rfl rfl (yv_fieldAddr rfl fo72_0 rfl (.pt rfl rfl rfl) (.pt _ _ _ _ _)) ?_
    refine st rfl rfl rfl (yv_load rfl sh69 rfl (.pt rfl rfl rfl) rfl) ?_
    obtain ⟨x6, e6, h1⟩ := bind_e h1
    refine st rfl rfl rfl (yv_callP rfl rfl (.cons rfl (.cons rfl .nil)) cal74 (CvL.refl _) (d_ref09_Same_c e6)) ?_
    refine st rfl rfl rfl (yv_move rfl rfl) ?_
    refine scases 10 rfl ?_ ?_
    · intro hb; subst hb; replace h1 := ct h1
      refine st rfl rfl rfl (yv_fieldAddr rfl fo72_1 rfl (.pt rfl rfl rfl) (.pt _ _ _ _ _)) ?_
      refine st rfl rfl rfl (yv_indexAddrA rfl Try.underlying70 sh3 rfl rfl rfl rfl rfl (by decide)) ?_
      refine st rfl rfl rfl (yv_load rfl sh3 rfl (.pt rfl rfl rfl) rfl) ?_
      refine st rfl rfl rfl (yv_fieldAddr rfl fo72_1 rfl (.pt rfl rfl rfl) (.pt _ _ _ _ _)) ?_
      refine st rfl rfl rfl (yv_indexAddrA rfl Try.underlying70 sh3 rfl rfl rfl rfl rfl (by decide)) ?_
      refine st rfl rfl rfl (yv_load rfl sh3 rfl (.pt rfl rfl rfl) rfl) ?_
      obtain ⟨x7, e7, h1⟩ := bnd_e h1
      refine st rfl rfl rfl (yv_to (y := boo x7) (yv_eql rfl rfl rfl) (congrArg boo e7)) ?_
      refine st rfl rfl rfl (yv_pick rfl rfl (fun _ => rfl) (fun _ => rfl) rfl) ?_
      refine st rfl rfl rfl (yv_move rfl rfl) ?_
      refine scases 19 rfl ?_ ?_
      · intro hb; subst hb; replace h1 := ct h1
        refine st rfl rfl rfl (yv_fieldAddr rfl fo72_1 rfl (.pt rfl rfl rfl) (.pt _ _ _ _ _)) ?_
        refine st rfl rfl rfl (yv_indexAddrA rfl Try.underlying70 sh3 rfl rfl rfl rfl rfl (by decide)) ?_
        refine st rfl rfl rfl (yv_load rfl sh3 rfl (.pt rfl rfl rfl) rfl) ?_
        refine st rfl rfl rfl (yv_fieldAddr rfl fo72_1 rfl (.pt rfl rfl rfl) (.pt _ _ _ _ _)) ?_
        refine st rfl rfl rfl (yv_indexAddrA rfl Try.underlying70 sh3 rfl rfl rfl rfl rfl (by decide)) ?_
        refine st rfl rfl rfl (yv_load rfl sh3 rfl (.pt rfl rfl rfl) rfl) ?_
        obtain ⟨x8, e8, h1⟩ := bnd_e h1
        refine st rfl rfl rfl (yv_to (y := boo x8) (yv_eql rfl rfl rfl) (congrArg boo e8)) ?_
        refine st rfl rfl rfl (yv_pick rfl rfl (fun _ => rfl) (fun _ => rfl) rfl) ?_
        refine st rfl rfl rfl (yv_move rfl rfl) ?_
        refine scases 28 rfl ?_ ?_
        · intro hb; subst hb; replace h1 := ct h1
          refine st rfl rfl rfl (yv_fieldAddr rfl fo72_1 rfl (.pt rfl rfl rfl) (.pt _ _ _ _ _)) ?_
          refine st rfl rfl rfl (yv_indexAddrA rfl Try.underlying70 sh3 rfl rfl rfl rfl rfl (by decide)) ?_
          refine st rfl rfl rfl (yv_load rfl sh3 rfl (.pt rfl rfl rfl) rfl) ?_
          refine st rfl rfl rfl (yv_fieldAddr rfl fo72_1 rfl (.pt rfl rfl rfl) (.pt _ _ _ _ _)) ?_
          refine st rfl rfl rfl (yv_indexAddrA rfl Try.underlying70 sh3 rfl rfl rfl rfl rfl (by decide)) ?_
          refine st rfl rfl rfl (yv_load rfl sh3 rfl (.pt rfl rfl rfl) rfl) ?_
          obtain ⟨x9, e9, h1⟩ := bnd_e h1
          refine st rfl rfl rfl (yv_to (y := boo x9) (yv_eql rfl rfl rfl) (congrArg boo e9)) ?_
          refine st rfl rfl rfl (yv_pick rfl rfl (fun _ => rfl) (fun _ => rfl) rfl) ?_
          refine st rfl rfl rfl (yv_assign rfl rfl) ?_
          obtain rfl := nxt_e h1
          refine rg_nil (hK _ ⟨x9, (), rfl, leH_kn ⟨⟨_, rfl, (.refl _)⟩, trivial⟩ trivial⟩)
        · intro hb; subst hb; replace h1 := cf h1
          refine sk rfl rfl rfl ?_
          refine sk rfl rfl rfl ?_
          refine sk rfl rfl rfl ?_
          refine sk rfl rfl rfl ?_
          refine sk rfl rfl rfl ?_
          refine sk rfl rfl rfl ?_
          refine sk rfl rfl rfl ?_
          refine st rfl rfl rfl (yv_pick rfl rfl (fun _ => rfl) (fun _ => rfl) rfl) ?_
          refine st rfl rfl rfl (yv_assign rfl rfl) ?_
          obtain rfl := nxt_e h1
          refine rg_nil (hK _ ⟨false, (), rfl, leH_kn ⟨⟨_, rfl, (.refl _)⟩, trivial⟩ trivial⟩)
      · intro hb; subst hb; replace h1 := cf h1
        refine sk rfl rfl rfl ?_
        refine sk rfl rfl rfl ?_
        refine sk rfl rfl rfl ?_
        refine sk rfl rfl rfl ?_
        refine sk rfl rfl rfl ?_
        refine sk rfl rfl rfl ?_
        refine sk rfl rfl rfl ?_
        refine st rfl rfl rfl (yv_pick rfl rfl (fun _ => rfl) (fun _ => rfl) rfl) ?_
        refine st rfl rfl rfl (yv_move rfl rfl) ?_
        refine sk rfl rfl rfl ?_
        refine sk rfl rfl rfl ?_
        refine sk rfl rfl rfl ?_
        refine sk rfl rfl rfl ?_
        refine sk rfl rfl rfl ?_
        refine sk rfl rfl rfl ?_
        refine sk rfl rfl rfl ?_
        refine st rfl rfl rfl (yv_pick rfl rfl (fun _ => rfl) (fun _ => rfl) rfl) ?_
        refine st rfl rfl rfl (yv_assign rfl rfl) ?_
        obtain rfl := nxt_e h1
        refine rg_nil (hK _ ⟨false, (), rfl, leH_kn ⟨⟨_, rfl, (.refl _)⟩, trivial⟩ trivial⟩)
    · intro hb; subst hb; replace h1 := cf h1
      refine sk rfl rfl rfl ?_
      refine sk rfl rfl rfl ?_
      refine sk rfl rfl rfl ?_
      refine sk rfl rfl rfl ?_
      refine sk rfl rfl rfl ?_
      refine sk rfl rfl rfl ?_
      refine sk rfl rfl rfl ?_
      refine st rfl rfl rfl (yv_pick rfl rfl (fun _ => rfl) (fun _ => rfl) rfl) ?_
      refine st rfl rfl rfl (yv_move rfl rfl) ?_
      refine sk rfl rfl rfl ?_
      refine sk rfl rfl rfl ?_
      refine sk rfl rfl rfl ?_
      refine sk rfl rfl rfl ?_
      refine sk rfl rfl rfl ?_
      refine sk rfl rfl rfl ?_
      refine sk rfl rfl rfl ?_
      refine st rfl rfl rfl (yv_pick rfl rfl (fun _ => rfl) (fun _ => rfl) rfl) ?_
      refine st rfl rfl rfl (yv_move rfl rfl) ?_
      refine sk rfl rfl rfl ?_
      refine sk rfl rfl rfl ?_
      refine sk rfl rfl rfl ?_
      refine sk rfl rfl rfl ?_
      refine sk rfl rfl rfl ?_
      refine sk rfl rfl rfl ?_
      refine sk rfl rfl rfl ?_
      refine st rfl rfl rfl (yv_pick rfl rfl (fun _ => rfl) (fun _ => rfl) rfl) ?_
      refine st rfl rfl rfl (yv_assign rfl rfl) ?_
      obtain rfl := nxt_e h1
      refine rg_nil (hK _ ⟨false, (), rfl, leH_kn ⟨⟨_, rfl, (.refl _)⟩, trivial⟩ trivial⟩)
  · rintro y0_1 _ rfl
    refine c_show ⟨kn [(4, boo y0_1)], hk []⟩ ?_
    obtain rfl := nxt_e h0
    refine c_ret (hret _ _ _ (.tmp rfl .nil) (fun _ _ h => h) ?_)
    exact .refl _
def d_ref14_Numbers (a1 : GRoll) : Option (A11_Int) :=
some (((⟨a1.Open, a1.Bought, a1.Landed, a1.Arrived, a1.Returned, a1.Sold, a1.Shipped, a1.SentBack, a1.Scrapped, a1.Lost, a1.Revalued⟩ : A11_Int) : A11_Int))
theorem d_ref14_Numbers_c {a1 : GRoll} {r : A11_Int} (h0 : d_ref14_Numbers a1 = some r) : PP Try.prog 70 [.agg (GRoll.av a1)] (fun y => y = .agg (A11_Int.av r)) := by
  unfold d_ref14_Numbers at h0
  refine pp_of_pc (R0 := fun y H => Cv (frzH H) y (.agg (A11_Int.av r))) ?_ (fun y H hc => ⟨_, rfl, (fun (a : A11_Int) => PV.agg (A11_Int.pvc a)) r, hc⟩)
  refine pc_of' (c := _) Try.func70 rfl rfl ?_; intro Q hret hnorm
  refine c_seq ?_
  refine c_reg ?_; intro K hK
  refine se rfl rfl rfl (yl_box 1 .any rfl rfl rfl) ?_; rintro _ _ ⟨v2, -, rfl, rfl⟩
  refine se rfl rfl rfl (yl_alloc 2 .any rfl z110 rfl) ?_; rintro _ _ ⟨v3, -, rfl, rfl⟩
  refine rg_nil (hK _ ?_)
  refine c_seq ?_
  refine c_reg ?_; intro K hK
  refine st rfl rfl rfl (yv_fieldAddr rfl fo68_0 rfl (.pt rfl rfl rfl) (.pt _ _ _ _ _)) ?_
  refine st rfl rfl rfl (yv_load rfl sh3 rfl (.pt rfl rfl rfl) rfl) ?_
  refine st rfl rfl rfl (yv_fieldAddr rfl fo68_1 rfl (.pt rfl rfl rfl) (.pt _ _ _ _ _)) ?_
  refine st rfl rfl rfl (yv_load rfl sh3 rfl (.pt rfl rfl rfl) rfl) ?_
  refine st rfl rfl rfl (yv_fieldAddr rfl fo68_2 rfl (.pt rfl rfl rfl) (.pt _ _ _ _ _)) ?_
  refine st rfl rfl rfl (yv_load rfl sh3 rfl (.pt rfl rfl rfl) rfl) ?_
  refine st rfl rfl rfl (yv_fieldAddr rfl fo68_3 rfl (.pt rfl rfl rfl) (.pt _ _ _ _ _)) ?_
  refine st rfl rfl rfl (yv_load rfl sh3 rfl (.pt rfl rfl rfl) rfl) ?_
  refine st rfl rfl rfl (yv_fieldAddr rfl fo68_4 rfl (.pt rfl rfl rfl) (.pt _ _ _ _ _)) ?_
  refine st rfl rfl rfl (yv_load rfl sh3 rfl (.pt rfl rfl rfl) rfl) ?_
  refine st rfl rfl rfl (yv_fieldAddr rfl fo68_5 rfl (.pt rfl rfl rfl) (.pt _ _ _ _ _)) ?_
  refine st rfl rfl rfl (yv_load rfl sh3 rfl (.pt rfl rfl rfl) rfl) ?_
  refine st rfl rfl rfl (yv_fieldAddr rfl fo68_6 rfl (.pt rfl rfl rfl) (.pt _ _ _ _ _)) ?_
  refine st rfl rfl rfl (yv_load rfl sh3 rfl (.pt rfl rfl rfl) rfl) ?_
  refine st rfl rfl rfl (yv_fieldAddr rfl fo68_7 rfl (.pt rfl rfl rfl) (.pt _ _ _ _ _)) ?_
  refine st rfl rfl rfl (yv_load rfl sh3 rfl (.pt rfl rfl rfl) rfl) ?_
  refine st rfl rfl rfl (yv_fieldAddr rfl fo68_8 rfl (.pt rfl rfl rfl) (.pt _ _ _ _ _)) ?_
  refine st rfl rfl rfl (yv_load rfl sh3 rfl (.pt rfl rfl rfl) rfl) ?_
  refine st rfl rfl rfl (yv_fieldAddr rfl fo68_9 rfl (.pt rfl rfl rfl) (.pt _ _ _ _ _)) ?_
  refine st rfl rfl rfl (yv_load rfl sh3 rfl (.pt rfl rfl rfl) rfl) ?_
  refine st rfl rfl rfl (yv_fieldAddr rfl fo68_10 rfl (.pt rfl rfl rfl) (.pt _ _ _ _ _)) ?_
  refine st rfl rfl rfl (yv_load rfl sh3 rfl (.pt rfl rfl rfl) rfl) ?_
  refine st rfl rfl rfl (yv_buildA (cs := [int a1.Open, int a1.Bought, int a1.Landed, int a1.Arrived, int a1.Returned, int a1.Sold, int a1.Shipped, int a1.SentBack, int a1.Scrapped, int a1.Lost, int a1.Revalued]) (ps := [(0, _), (1, _), (2, _), (3, _), (4, _), (5, _), (6, _), (7, _), (8, _), (9, _), (10, _)]) rfl Try.underlying110 sh3 z110 rfl (.cons rfl (.cons rfl (.cons rfl (.cons rfl (.cons rfl (.cons rfl (.cons rfl (.cons rfl (.cons rfl (.cons rfl (.cons rfl .nil))))))))))) (by kernel_rfl)) ?_
  refine sstore rfl rfl (yl_ob (ob' := (⟨110, 11, true, true, v3, [[int a1.Open, int a1.Bought, int a1.Landed, int a1.Arrived, int a1.Returned, int a1.Sold, int a1.Shipped, int a1.SentBack, int a1.Scrapped, int a1.Lost, int a1.Revalued]]⟩ : AObj)) (yl_store rfl sh110 rfl rfl rfl rfl rfl rfl rfl rfl rfl) rfl) ?_
  refine rg_nil (hK _ ?_)
  obtain rfl := nxt_e h0
  refine c_ret (hret _ _ _ (.cell rfl (.pt rfl rfl rfl) sh110 rfl .nil) (fun _ _ h => h) ?_)
  exact .refl _
mutual
def d_ref14_sameEnt_L0 (a1 : GEnt) (a2 : GEnt) : Nat → Int → Option ((Unit) ⊕ (Bool))
  | 0, _ => none
  | n + 1, y1_1 =>
    bnd (decide (y1_1 < (a1.Pools.length : Int))) fun (x12 : Bool) =>
    cond x12 ((ix a1.Pools y1_1).bind fun (x13 : GPool) =>
    (ix a2.Pools y1_1).bind fun (x14 : GPool) =>
    (d_ref11_Same n x13 x14).bind fun (x15 : Bool) =>
    bnd (!x15) fun (x16 : Bool) =>
    cond x16 (esc (some ((false : Bool)))) (bnd (w64 (y1_1 + 1)) fun (x18 : Int) =>
    d_ref14_sameEnt_L0 a1 a2 n (x18 : Int))) (brk ())
def d_ref14_sameEnt_L1 (a1 : GEnt) (a2 : GEnt) : Nat → Int → Option ((Unit) ⊕ (Bool))
  | 0, _ => none
  | n + 1, y3_1 =>
    bnd (decide (y3_1 < (a1.Rolls.length : Int))) fun (x20 : Bool) =>
    cond x20 ((ix a1.Rolls y3_1).bind fun (x21 : GRoll) =>
    (d_ref14_Numbers x21).bind fun (x22 : A11_Int) =>
    (ix a2.Rolls y3_1).bind fun (x23 : GRoll) =>
    (d_ref14_Numbers x23).bind fun (x24 : A11_Int) =>
    bnd (!decide ((x22 : A11_Int) = (x24 : A11_Int))) fun (x25 : Bool) =>
    cond x25 (esc (some ((false : Bool)))) (bnd (w64 (y3_1 + 1)) fun (x27 : Int) =>
    d_ref14_sameEnt_L1 a1 a2 n (x27 : Int))) (brk ())
def d_ref14_sameEnt_L2 (a1 : GEnt) (a2 : GEnt) : Nat → Int → Option ((Unit) ⊕ (Bool))
  | 0, _ => none
  | n + 1, y5_1 =>
    bnd (decide (y5_1 < (a1.Ahead.length : Int))) fun (x29 : Bool) =>
    cond x29 ((ix a1.Ahead y5_1).bind fun (x30 : GEnt) =>
    (ix a2.Ahead y5_1).bind fun (x31 : GEnt) =>
    (d_ref14_sameEnt n x30 x31).bind fun (x32 : Bool) =>
    bnd (!x32) fun (x33 : Bool) =>
    cond x33 (esc (some ((false : Bool)))) (bnd (w64 (y5_1 + 1)) fun (x35 : Int) =>
    d_ref14_sameEnt_L2 a1 a2 n (x35 : Int))) (brk ())
def d_ref14_sameEnt : Nat → GEnt → GEnt → Option (Bool)
  | 0, _, _ => none
  | n + 1, a1, a2 =>
    (show Option (Bool) from
    bnd (decide (a1.Now ≠ a2.Now)) fun (x6 : Bool) =>
    cond x6 (some (true : Bool)) (bnd (decide (a1.Closed ≠ a2.Closed)) fun (x7 : Bool) =>
    cond x7 (some (true : Bool)) (bnd (decide ((a1.Pools.length : Int) ≠ (a2.Pools.length : Int))) fun (x8 : Bool) =>
    cond x8 (some (true : Bool)) (bnd (decide ((a1.Rolls.length : Int) ≠ (a2.Rolls.length : Int))) fun (x9 : Bool) =>
    cond x9 (some (true : Bool)) (bnd (decide ((a1.Ahead.length : Int) ≠ (a2.Ahead.length : Int))) fun (x10 : Bool) =>
    some (x10 : Bool)))))).bind <| fun (y0_1 : Bool) =>
    cond y0_1 (some ((false : Bool))) ((show Option ((Unit) ⊕ (Bool)) from
    d_ref14_sameEnt_L0 a1 a2 n (0 : Int)).bind <| sel <| fun (_ : Unit) =>
    (show Option ((Unit) ⊕ (Bool)) from
    d_ref14_sameEnt_L1 a1 a2 n (0 : Int)).bind <| sel <| fun (_ : Unit) =>
    (show Option ((Unit) ⊕ (Bool)) from
    d_ref14_sameEnt_L2 a1 a2 n (0 : Int)).bind <| sel <| fun (_ : Unit) =>
    (show Option (Bool) from
    (d_ref04_SameInts n a1.Bal a2.Bal).bind fun (x37 : Bool) =>
    cond x37 ((d_ref04_SameInts n a1.Prices a2.Prices).bind fun (x38 : Bool) =>
    cond x38 ((d_ref04_SameInts n a1.Down a2.Down).bind fun (x39 : Bool) =>
    some (x39 : Bool)) (some (false : Bool))) (some (false : Bool))).bind <| fun (y7_1 : Bool) =>
    some ((y7_1 : Bool)))
end
theorem d_ref14_sameEnt_c {n : Nat} {a1 : GEnt} {a2 : GEnt} {r : Bool} (h0 : d_ref14_sameEnt n a1 a2 = some r) : PP Try.prog 62 [.agg [int a1.Now, boo a1.Closed, lst 4 GPool.av a1.Pools, lst 1 fI a1.Bal, lst 11 GRoll.av a1.Rolls, lst 1 fI a1.Prices, lst 1 fI a1.Down, lst 8 GEnt.av a1.Ahead], .agg [int a2.Now, boo a2.Closed, lst 4 GPool.av a2.Pools, lst 1 fI a2.Bal, lst 11 GRoll.av a2.Rolls, lst 1 fI a2.Prices, lst 1 fI a2.Down, lst 8 GEnt.av a2.Ahead]] (fun y => y = boo r) := by
  induction n using Nat.strongRecOn generalizing a1 a2 r with
  | ind n ih =>
    cases n with
    | zero => rw [d_ref14_sameEnt] at h0; cases h0
    | succ n =>
    have hN : n < n + 1 := Nat.lt_succ_self n
    rw [d_ref14_sameEnt] at h0
    refine pp_of_pc (R0 := fun y H => Cv (frzH H) y (boo r)) ?_ (fun y H hc => ⟨_, rfl, pvB r, hc⟩)
    refine pc_of' (c := _) Try.func62 rfl rfl ?_; intro Q hret hnorm
    refine c_seq ?_
    refine c_reg ?_; intro K hK
    refine se rfl rfl rfl (yl_box 1 .any rfl rfl rfl) ?_; rintro _ _ ⟨v3, -, rfl, rfl⟩
    refine se rfl rfl rfl (yl_box 2 .any rfl rfl rfl) ?_; rintro _ _ ⟨v4, -, rfl, rfl⟩
    refine st rfl rfl rfl (yv_assign rfl rfl) ?_
    refine rg_nil (hK _ ?_)
    refine c_seq ?_
    refine c_seq ?_
    obtain ⟨j5, h1, h0⟩ := bind_e h0
    refine c_regL (fun (a : Bool) (k : Unit) => ⟨kn [(2, .pt 1 v3 0 0), (3, .pt 2 v4 0 0), (4, boo false), (46, boo a)], hk [(1, ⟨66, 8, true, true, v3, [[int a1.Now, boo a1.Closed, lst 4 GPool.av a1.Pools, lst 1 fI a1.Bal, lst 11 GRoll.av a1.Rolls, lst 1 fI a1.Prices, lst 1 fI a1.Down, lst 8 GEnt.av a1.Ahead]]⟩), (2, ⟨66, 8, true, true, v4, [[int a2.Now, boo a2.Closed, lst 4 GPool.av a2.Pools, lst 1 fI a2.Bal, lst 11 GRoll.av a2.Rolls, lst 1 fI a2.Prices, lst 1 fI a2.Down, lst 8 GEnt.av a2.Ahead]]⟩)]⟩) (fun a => a = j5) ?_ ?_
    · intro K hK
      refine st rfl rfl rfl (yv_fieldAddr rfl fo66_0 rfl (.pt rfl rfl rfl) (.pt _ _ _ _ _)) ?_
      refine st rfl rfl rfl (yv_load rfl sh3 rfl (.pt rfl rfl rfl) rfl) ?_
      refine st rfl rfl rfl (yv_fieldAddr rfl fo66_0 rfl (.pt rfl rfl rfl) (.pt _ _ _ _ _)) ?_
      refine st rfl rfl rfl (yv_load rfl sh3 rfl (.pt rfl rfl rfl) rfl) ?_
      obtain ⟨x6, e6, h1⟩ := bnd_e h1
      refine st rfl rfl rfl (yv_to (y := boo x6) (yv_neq rfl rfl rfl) (congrArg boo e6)) ?_
      refine st rfl rfl rfl (yv_move rfl rfl) ?_
      refine scases 13 rfl ?_ ?_
      · intro hb; subst hb; replace h1 := ct h1
        refine sk rfl rfl rfl ?_
        refine sk rfl rfl rfl ?_
        refine sk rfl rfl rfl ?_
        refine sk rfl rfl rfl ?_
        refine sk rfl rfl rfl ?_
        refine st rfl rfl rfl (yv_pick rfl rfl (fun _ => rfl) (fun _ => rfl) rfl) ?_
        refine st rfl rfl rfl (yv_move rfl rfl) ?_
        refine sk rfl rfl rfl ?_
        refine sk rfl rfl rfl ?_
        refine sk rfl rfl rfl ?_
        refine sk rfl rfl rfl ?_
        refine sk rfl rfl rfl ?_
        refine sk rfl rfl rfl ?_
        refine sk rfl rfl rfl ?_
        refine st rfl rfl rfl (yv_pick rfl rfl (fun _ => rfl) (fun _ => rfl) rfl) ?_
        refine st rfl rfl rfl (yv_move rfl rfl) ?_
        refine sk rfl rfl rfl ?_
        refine sk rfl rfl rfl ?_
        refine sk rfl rfl rfl ?_
        refine sk rfl rfl rfl ?_
        refine sk rfl rfl rfl ?_
        refine sk rfl rfl rfl ?_
        refine sk rfl rfl rfl ?_
        refine st rfl rfl rfl (yv_pick rfl rfl (fun _ => rfl) (fun _ => rfl) rfl) ?_
        refine st rfl rfl rfl (yv_move rfl rfl) ?_
        refine sk rfl rfl rfl ?_
        refine sk rfl rfl rfl ?_
        refine sk rfl rfl rfl ?_
        refine sk rfl rfl rfl ?_
        refine sk rfl rfl rfl ?_
        refine sk rfl rfl rfl ?_
        refine sk rfl rfl rfl ?_
        refine st rfl rfl rfl (yv_pick rfl rfl (fun _ => rfl) (fun _ => rfl) rfl) ?_
        obtain rfl := nxt_e h1
        refine rg_nil (hK _ ⟨true, (), rfl, leH_kn ⟨⟨_, rfl, (.refl _)⟩, ⟨_, rfl, (.refl _)⟩, ⟨_, rfl, (.refl _)⟩, ⟨_, rfl, (.refl _)⟩, trivial⟩ ⟨⟨_, rfl, (.refl _)⟩, ⟨_, rfl, (.refl _)⟩, trivial⟩⟩)
      · intro hb; subst hb; replace h1 := cf h1
        refine st rfl rfl rfl (yv_fieldAddr rfl fo66_1 rfl (.pt rfl rfl rfl) (.pt _ _ _ _ _)) ?_
        refine st rfl rfl rfl (yv_load rfl sh4 rfl (.pt rfl rfl rfl) rfl) ?_
        refine st rfl rfl rfl (yv_fieldAddr rfl fo66_1 rfl (.pt rfl rfl rfl) (.pt _ _ _ _ _)) ?_
        refine st rfl rfl rfl (yv_load rfl sh4 rfl (.pt rfl rfl rfl) rfl) ?_
        obtain ⟨x7, e7, h1⟩ := bnd_e h1
        refine st rfl rfl rfl (yv_to (y := boo x7) (yv_bneq rfl Try.underlying4 rfl rfl) (congrArg boo e7)) ?_
        refine st rfl rfl rfl (yv_pick rfl rfl (fun _ => rfl) (fun _ => rfl) rfl) ?_
        refine st rfl rfl rfl (yv_move rfl rfl) ?_
        refine scases 20 rfl ?_ ?_
        · intro hb; subst hb; replace h1 := ct h1
          refine sk rfl rfl rfl ?_
          refine sk rfl rfl rfl ?_
          refine sk rfl rfl rfl ?_
          refine sk rfl rfl rfl ?_
          refine sk rfl rfl rfl ?_
          refine sk rfl rfl rfl ?_
          refine sk rfl rfl rfl ?_
          refine st rfl rfl rfl (yv_pick rfl rfl (fun _ => rfl) (fun _ => rfl) rfl) ?_
          refine st rfl rfl rfl (yv_move rfl rfl) ?_
          refine sk rfl rfl rfl ?_
          refine sk rfl rfl rfl ?_
          refine sk rfl rfl rfl ?_
          refine sk rfl rfl rfl ?_
          refine sk rfl rfl rfl ?_
          refine sk rfl rfl rfl ?_
          refine sk rfl rfl rfl ?_
          refine st rfl rfl rfl (yv_pick rfl rfl (fun _ => rfl) (fun _ => rfl) rfl) ?_
          refine st rfl rfl rfl (yv_move rfl rfl) ?_
          refine sk rfl rfl rfl ?_
          refine sk rfl rfl rfl ?_
          refine sk rfl rfl rfl ?_
          refine sk rfl rfl rfl ?_
          refine sk rfl rfl rfl ?_
          refine sk rfl rfl rfl ?_
          refine sk rfl rfl rfl ?_
          refine st rfl rfl rfl (yv_pick rfl rfl (fun _ => rfl) (fun _ => rfl) rfl) ?_
          obtain rfl := nxt_e h1
          refine rg_nil (hK _ ⟨true, (), rfl, leH_kn ⟨⟨_, rfl, (.refl _)⟩, ⟨_, rfl, (.refl _)⟩, ⟨_, rfl, (.refl _)⟩, ⟨_, rfl, (.refl _)⟩, trivial⟩ ⟨⟨_, rfl, (.refl _)⟩, ⟨_, rfl, (.refl _)⟩, trivial⟩⟩)
        · intro hb; subst hb; replace h1 := cf h1
          refine st rfl rfl rfl (yv_fieldAddr rfl fo66_2 rfl (.pt rfl rfl rfl) (.pt _ _ _ _ _)) ?_
          refine st rfl rfl rfl (yv_load rfl sh63 rfl (.pt rfl rfl rfl) rfl) ?_
          refine st rfl rfl rfl (yv_len_sl rfl Try.underlying63 rfl (lst_len _)) ?_
          refine st rfl rfl rfl (yv_fieldAddr rfl fo66_2 rfl (.pt rfl rfl rfl) (.pt _ _ _ _ _)) ?_
          refine st rfl rfl rfl (yv_load rfl sh63 rfl (.pt rfl rfl rfl) rfl) ?_
          refine st rfl rfl rfl (yv_len_sl rfl Try.underlying63 rfl (lst_len _)) ?_
          obtain ⟨x8, e8, h1⟩ := bnd_e h1
          refine st rfl rfl rfl (yv_to (y := boo x8) (yv_neq rfl rfl rfl) (congrArg boo e8)) ?_
          refine st rfl rfl rfl (yv_pick rfl rfl (fun _ => rfl) (fun _ => rfl) rfl) ?_
          refine st rfl rfl rfl (yv_move rfl rfl) ?_
          refine scases 29 rfl ?_ ?_
          · intro hb; subst hb; replace h1 := ct h1
            refine sk rfl rfl rfl ?_
            refine sk rfl rfl rfl ?_
            refine sk rfl rfl rfl ?_
            refine sk rfl rfl rfl ?_
            refine sk rfl rfl rfl ?_
            refine sk rfl rfl rfl ?_
            refine sk rfl rfl rfl ?_
            refine st rfl rfl rfl (yv_pick rfl rfl (fun _ => rfl) (fun _ => rfl) rfl) ?_
            refine st rfl rfl rfl (yv_move rfl rfl) ?_
            refine sk rfl rfl rfl ?_
            refine sk rfl rfl rfl ?_
            refine sk rfl rfl rfl ?_
            refine sk rfl rfl rfl ?_
            refine sk rfl rfl rfl ?_
            refine sk rfl rfl rfl ?_
            refine sk rfl rfl rfl ?_
            refine st rfl rfl rfl (yv_pick rfl rfl (fun _ => rfl) (fun _ => rfl) rfl) ?_
            obtain rfl := nxt_e h1
            refine rg_nil (hK _ ⟨true, (), rfl, leH_kn ⟨⟨_, rfl, (.refl _)⟩, ⟨_, rfl, (.refl _)⟩, ⟨_, rfl, (.refl _)⟩, ⟨_, rfl, (.refl _)⟩, trivial⟩ ⟨⟨_, rfl, (.refl _)⟩, ⟨_, rfl, (.refl _)⟩, trivial⟩⟩)
          · intro hb; subst hb; replace h1 := cf h1
            refine st rfl rfl rfl (yv_fieldAddr rfl fo66_4 rfl (.pt rfl rfl rfl) (.pt _ _ _ _ _)) ?_
            refine st rfl rfl rfl (yv_load rfl sh64 rfl (.pt rfl rfl rfl) rfl) ?_
            refine st rfl rfl rfl (yv_len_sl rfl Try.underlying64 rfl (lst_len _)) ?_
            refine st rfl rfl rfl (yv_fieldAddr rfl fo66_4 rfl (.pt rfl rfl rfl) (.pt _ _ _ _ _)) ?_
            refine st rfl rfl rfl (yv_load rfl sh64 rfl (.pt rfl rfl rfl) rfl) ?_
            refine st rfl rfl rfl (yv_len_sl rfl Try.underlying64 rfl (lst_len _)) ?_
            obtain ⟨x9, e9, h1⟩ := bnd_e h1
            refine st rfl rfl rfl (yv_to (y := boo x9) (yv_neq rfl rfl rfl) (congrArg boo e9)) ?_
            refine st rfl rfl rfl (yv_pick rfl rfl (fun _ => rfl) (fun _ => rfl) rfl) ?_
            refine st rfl rfl rfl (yv_move rfl rfl) ?_
            refine scases 38 rfl ?_ ?_
            · intro hb; subst hb; replace h1 := ct h1
              refine sk rfl rfl rfl ?_
              refine sk rfl rfl rfl ?_
              refine sk rfl rfl rfl ?_
              refine sk rfl rfl rfl ?_
              refine sk rfl rfl rfl ?_
              refine sk rfl rfl rfl ?_
              refine sk rfl rfl rfl ?_
              refine st rfl rfl rfl (yv_pick rfl rfl (fun _ => rfl) (fun _ => rfl) rfl) ?_
              obtain rfl := nxt_e h1
              refine rg_nil (hK _ ⟨true, (), rfl, leH_kn ⟨⟨_, rfl, (.refl _)⟩, ⟨_, rfl, (.refl _)⟩, ⟨_, rfl, (.refl _)⟩, ⟨_, rfl, (.refl _)⟩, trivial⟩ ⟨⟨_, rfl, (.refl _)⟩, ⟨_, rfl, (.refl _)⟩, trivial⟩⟩)
            · intro hb; subst hb; replace h1 := cf h1
              refine st rfl rfl rfl (yv_fieldAddr rfl fo66_7 rfl (.pt rfl rfl rfl) (.pt _ _ _ _ _)) ?_
              refine st rfl rfl rfl (yv_load rfl sh48 rfl (.pt rfl rfl rfl) rfl) ?_
              refine st rfl rfl rfl (yv_len_sl rfl Try.underlying48 rfl (lst_len _)) ?_
              refine st rfl rfl rfl (yv_fieldAddr rfl fo66_7 rfl (.pt rfl rfl rfl) (.pt _ _ _ _ _)) ?_
              refine st rfl rfl rfl (yv_load rfl sh48 rfl (.pt rfl rfl rfl) rfl) ?_
              refine st rfl rfl rfl (yv_len_sl rfl Try.underlying48 rfl (lst_len _)) ?_
              obtain ⟨x10, e10, h1⟩ := bnd_e h1
              refine st rfl rfl rfl (yv_to (y := boo x10) (yv_neq rfl rfl rfl) (congrArg boo e10)) ?_
              refine st rfl rfl rfl (yv_pick rfl rfl (fun _ => rfl) (fun _ => rfl) rfl) ?_
              obtain rfl := nxt_e h1
              refine rg_nil (hK _ ⟨x10, (), rfl, leH_kn ⟨⟨_, rfl, (.refl _)⟩, ⟨_, rfl, (.refl _)⟩, ⟨_, rfl, (.refl _)⟩, ⟨_, rfl, (.refl _)⟩, trivial⟩ ⟨⟨_, rfl, (.refl _)⟩, ⟨_, rfl, (.refl _)⟩, trivial⟩⟩)
    · rintro y0_1 _ rfl
      refine c_show ⟨kn [(2, .pt 1 v3 0 0), (3, .pt 2 v4 0 0), (4, boo false), (46, boo y0_1)], hk [(1, ⟨66, 8, true, true, v3, [[int a1.Now, boo a1.Closed, lst 4 GPool.av a1.Pools, lst 1 fI a1.Bal, lst 11 GRoll.av a1.Rolls, lst 1 fI a1.Prices, lst 1 fI a1.Down, lst 8 GEnt.av a1.Ahead]]⟩), (2, ⟨66, 8, true, true, v4, [[int a2.Now, boo a2.Closed, lst 4 GPool.av a2.Pools, lst 1 fI a2.Bal, lst 11 GRoll.av a2.Rolls, lst 1 fI a2.Prices, lst 1 fI a2.Down, lst 8 GEnt.av a2.Ahead]]⟩)]⟩ ?_
      refine c_if (b := y0_1) rfl ?_ ?_
      · intro hb; subst hb; replace h0 := ct h0
        refine c_seq ?_
        refine c_reg ?_; intro K hK
        refine st rfl rfl rfl (yv_assign rfl rfl) ?_
        refine rg_nil (hK _ ?_)
        obtain rfl := nxt_e h0
        refine c_ret (hret _ _ _ (.tmp rfl .nil) (fun _ _ h => h) ?_)
        exact .refl _
      · intro hb; subst hb; replace h0 := cf h0
        refine c_skip ?_
        refine c_seq ?_
        refine c_seq ?_
        refine c_reg ?_; intro K hK
        refine st rfl rfl rfl (yv_assign rfl rfl) ?_
        refine rg_nil (hK _ ?_)
        obtain ⟨j11, h1, h0⟩ := bind_e h0
        refine c_joinL (fun (a : Unit) (k : Unit) => ⟨kn [(2, .pt 1 v3 0 0), (3, .pt 2 v4 0 0), (4, boo false)], hk [(1, ⟨66, 8, true, true, v3, [[int a1.Now, boo a1.Closed, lst 4 GPool.av a1.Pools, lst 1 fI a1.Bal, lst 11 GRoll.av a1.Rolls, lst 1 fI a1.Prices, lst 1 fI a1.Down, lst 8 GEnt.av a1.Ahead]]⟩), (2, ⟨66, 8, true, true, v4, [[int a2.Now, boo a2.Closed, lst 4 GPool.av a2.Pools, lst 1 fI a2.Bal, lst 11 GRoll.av a2.Rolls, lst 1 fI a2.Prices, lst 1 fI a2.Down, lst 8 GEnt.av a2.Ahead]]⟩)]⟩) (fun a => j11 = .inl a) ?_ ?_
        · intro Q1 jn1 jx1 jr1
          refine c_block ?_; intro Q2 bn2 bx2 br2 bo2
          refine c_loopD (fun (a : Int) (k : Unit) => ⟨kn [(2, .pt 1 v3 0 0), (3, .pt 2 v4 0 0), (4, boo false), (5, int a)], hk [(1, ⟨66, 8, true, true, v3, [[int a1.Now, boo a1.Closed, lst 4 GPool.av a1.Pools, lst 1 fI a1.Bal, lst 11 GRoll.av a1.Rolls, lst 1 fI a1.Prices, lst 1 fI a1.Down, lst 8 GEnt.av a1.Ahead]]⟩), (2, ⟨66, 8, true, true, v4, [[int a2.Now, boo a2.Closed, lst 4 GPool.av a2.Pools, lst 1 fI a2.Bal, lst 11 GRoll.av a2.Rolls, lst 1 fI a2.Prices, lst 1 fI a2.Down, lst 8 GEnt.av a2.Ahead]]⟩)]⟩) (fun n (a : Int) => d_ref14_sameEnt_L0 a1 a2 n a) (0 : Int) () h1 (fun _ => rfl)
            (leH_kn ⟨⟨_, rfl, (.refl _)⟩, ⟨_, rfl, (.refl _)⟩, ⟨_, rfl, (.refl _)⟩, ⟨_, rfl, (.refl _)⟩, trivial⟩ ⟨⟨_, rfl, (.refl _)⟩, ⟨_, rfl, (.refl _)⟩, trivial⟩) ?_
          rintro n y1_1 _ hm h1 Q3 ln3 lx3 lr3
          replace h1 : d_ref14_sameEnt_L0 a1 a2 (n + 1) y1_1 = some _ := h1
          replace hN := Nat.lt_trans (Nat.lt_of_succ_le hm) hN
          rw [d_ref14_sameEnt_L0] at h1
          refine c_show ⟨kn [(2, .pt 1 v3 0 0), (3, .pt 2 v4 0 0), (4, boo false), (5, int y1_1)], hk [(1, ⟨66, 8, true, true, v3, [[int a1.Now, boo a1.Closed, lst 4 GPool.av a1.Pools, lst 1 fI a1.Bal, lst 11 GRoll.av a1.Rolls, lst 1 fI a1.Prices, lst 1 fI a1.Down, lst 8 GEnt.av a1.Ahead]]⟩), (2, ⟨66, 8, true, true, v4, [[int a2.Now, boo a2.Closed, lst 4 GPool.av a2.Pools, lst 1 fI a2.Bal, lst 11 GRoll.av a2.Rolls, lst 1 fI a2.Prices, lst 1 fI a2.Down, lst 8 GEnt.av a2.Ahead]]⟩)]⟩ ?_
          refine c_seq ?_
          refine c_seq ?_
          refine c_reg ?_; intro K hK
          refine st rfl rfl rfl (yv_move rfl rfl) ?_
          refine st rfl rfl rfl (yv_fieldAddr rfl fo66_2 rfl (.pt rfl rfl rfl) (.pt _ _ _ _ _)) ?_
          refine st rfl rfl rfl (yv_load rfl sh63 rfl (.pt rfl rfl rfl) rfl) ?_
          refine st rfl rfl rfl (yv_len_sl rfl Try.underlying63 rfl (lst_len _)) ?_
          obtain ⟨x12, e12, h1⟩ := bnd_e h1
          refine st rfl rfl rfl (yv_to (y := boo x12) (yv_lss rfl rfl rfl) (congrArg boo e12)) ?_
          refine rg_nil (hK _ ?_)
          refine c_if (b := x12) rfl ?_ ?_
          · intro hb; subst hb; replace h1 := ct h1
            refine c_skip ?_
            refine c_seq ?_
            refine c_block ?_; intro Q4 bn4 bx4 br4 bo4
            refine c_seq ?_
            refine c_drawE [0, 1, 0, 7, 15, 0, 32, 0, 224, 480, 1023, 2047] (fun i => bif Nat.beq i 0 then ([1]) else bif Nat.beq i 1 then ([1]) else bif Nat.beq i 5 then ([2]) else bif Nat.beq i 6 then ([2]) else []) (fun i => [1, 2]) (fun i => true) [0, 1, 2, 3, 4, 5, 6, 7, 8, 9, 10, 11] mixed (by kernel_rfl) ?_; intro K hK
            refine de_pure rfl rfl rfl rfl (fun H hH => yv_fieldAddr rfl fo66_2 rfl (.pt ((hH _ (by decide)).trans rfl) rfl rfl) (.pt _ _ _ _ _)) ?_
            refine de_pure rfl rfl rfl rfl (fun H hH => yv_load rfl sh63 rfl (.pt ((hH _ (by decide)).trans rfl) rfl rfl) rfl) ?_
            refine de_pure rfl rfl rfl rfl (fun H hH => yv_move rfl rfl) ?_
            obtain ⟨x13, e13, h1⟩ := bind_e h1
            refine de_pure rfl rfl rfl rfl (fun H hH => yv_ixT rfl Try.underlying63 sh72 rfl rfl e13) ?_
            refine de_pure rfl rfl rfl rfl (fun H hH => yv_load rfl sh72 rfl (.pp _) rfl) ?_
            refine de_pure rfl rfl rfl rfl (fun H hH => yv_fieldAddr rfl fo66_2 rfl (.pt ((hH _ (by decide)).trans rfl) rfl rfl) (.pt _ _ _ _ _)) ?_
            refine de_pure rfl rfl rfl rfl (fun H hH => yv_load rfl sh63 rfl (.pt ((hH _ (by decide)).trans rfl) rfl rfl) rfl) ?_
            refine de_pure rfl rfl rfl rfl (fun H hH => yv_move rfl rfl) ?_
            obtain ⟨x14, e14, h1⟩ := bind_e h1
            refine de_pure rfl rfl rfl rfl (fun H hH => yv_ixT rfl Try.underlying63 sh72 rfl rfl e14) ?_
            refine de_pure rfl rfl rfl rfl (fun H hH => yv_load rfl sh72 rfl (.pp _) rfl) ?_
            obtain ⟨x15, e15, h1⟩ := bind_e h1
            refine de_pure rfl rfl rfl rfl (fun H hH => yv_callP rfl rfl (.cons rfl (.cons rfl .nil)) cal69 (CvL.refl _) (d_ref11_Same_c e15)) ?_
            obtain ⟨x16, e16, h1⟩ := bnd_e h1
            refine de_pure rfl rfl rfl rfl (fun H hH => yv_not rfl rfl e16) ?_
            refine de_nil (hK _ ?_)
            refine c_if (b := x16) rfl ?_ ?_
            · intro hb; subst hb; replace h1 := ct h1
              refine c_seq ?_
              refine c_reg ?_; intro K hK
              refine st rfl rfl rfl (yv_assign rfl rfl) ?_
              refine rg_nil (hK _ ?_)
              obtain ⟨c17, hX, hj⟩ := esc_e h1; subst hj; replace h0 := hX.trans (sel_r h0)
              obtain rfl := nxt_e h0
              refine c_ret (br4 _ (lr3 _ (br2 _ (jr1 _ (hret _ _ _ (.tmp rfl .nil) (fun _ _ h => h) ?_)))))
              exact .refl _
            · intro hb; subst hb; replace h1 := cf h1
              refine c_skip ?_
              refine c_nil (bn4 _ ?_)
              refine c_reg ?_; intro K hK
              refine st rfl rfl rfl (yv_move rfl rfl) ?_
              obtain ⟨x18, e18, h1⟩ := bnd_e h1
              refine st rfl rfl rfl (yv_add rfl rfl rfl e18) ?_
              refine st rfl rfl rfl (yv_assign rfl rfl) ?_
              refine rg_nil (hK _ ?_)
              refine c_nil (ln3 _ ⟨x18, (), h1, leH_kn ⟨⟨_, rfl, (.refl _)⟩, ⟨_, rfl, (.refl _)⟩, ⟨_, rfl, (.refl _)⟩, ⟨_, rfl, (.refl _)⟩, trivial⟩ ⟨⟨_, rfl, (.refl _)⟩, ⟨_, rfl, (.refl _)⟩, trivial⟩⟩)
          · intro hb; subst hb; replace h1 := cf h1
            refine c_exit (lx3 _ _ (bx2 _ ?_))
            obtain rfl := brk_e h1
            refine c_nil (jn1 _ ⟨(), (), rfl, leH_kn ⟨⟨_, rfl, (.refl _)⟩, ⟨_, rfl, (.refl _)⟩, ⟨_, rfl, (.refl _)⟩, trivial⟩ ⟨⟨_, rfl, (.refl _)⟩, ⟨_, rfl, (.refl _)⟩, trivial⟩⟩)
        · rintro _ _ rfl
          replace h0 := sel_l h0
          refine c_show ⟨kn [(2, .pt 1 v3 0 0), (3, .pt 2 v4 0 0), (4, boo false)], hk [(1, ⟨66, 8, true, true, v3, [[int a1.Now, boo a1.Closed, lst 4 GPool.av a1.Pools, lst 1 fI a1.Bal, lst 11 GRoll.av a1.Rolls, lst 1 fI a1.Prices, lst 1 fI a1.Down, lst 8 GEnt.av a1.Ahead]]⟩), (2, ⟨66, 8, true, true, v4, [[int a2.Now, boo a2.Closed, lst 4 GPool.av a2.Pools, lst 1 fI a2.Bal, lst 11 GRoll.av a2.Rolls, lst 1 fI a2.Prices, lst 1 fI a2.Down, lst 8 GEnt.av a2.Ahead]]⟩)]⟩ ?_
          refine c_seq ?_
          refine c_seq ?_
          refine c_reg ?_; intro K hK
          refine st rfl rfl rfl (yv_assign rfl rfl) ?_
          refine rg_nil (hK _ ?_)
          obtain ⟨j19, h1, h0⟩ := bind_e h0
          refine c_joinL (fun (a : Unit) (k : Unit) => ⟨kn [(2, .pt 1 v3 0 0), (3, .pt 2 v4 0 0), (4, boo false)], hk [(1, ⟨66, 8, true, true, v3, [[int a1.Now, boo a1.Closed, lst 4 GPool.av a1.Pools, lst 1 fI a1.Bal, lst 11 GRoll.av a1.Rolls, lst 1 fI a1.Prices, lst 1 fI a1.Down, lst 8 GEnt.av a1.Ahead]]⟩), (2, ⟨66, 8, true, true, v4, [[int a2.Now, boo a2.Closed, lst 4 GPool.av a2.Pools, lst 1 fI a2.Bal, lst 11 GRoll.av a2.Rolls, lst 1 fI a2.Prices, lst 1 fI a2.Down, lst 8 GEnt.av a2.Ahead]]⟩)]⟩) (fun a => j19 = .inl a) ?_ ?_
          · intro Q1 jn1 jx1 jr1
            refine c_block ?_; intro Q2 bn2 bx2 br2 bo2
            refine c_loopD (fun (a : Int) (k : Unit) => ⟨kn [(2, .pt 1 v3 0 0), (3, .pt 2 v4 0 0), (4, boo false), (6, int a)], hk [(1, ⟨66, 8, true, true, v3, [[int a1.Now, boo a1.Closed, lst 4 GPool.av a1.Pools, lst 1 fI a1.Bal, lst 11 GRoll.av a1.Rolls, lst 1 fI a1.Prices, lst 1 fI a1.Down, lst 8 GEnt.av a1.Ahead]]⟩), (2, ⟨66, 8, true, true, v4, [[int a2.Now, boo a2.Closed, lst 4 GPool.av a2.Pools, lst 1 fI a2.Bal, lst 11 GRoll.av a2.Rolls, lst 1 fI a2.Prices, lst 1 fI a2.Down, lst 8 GEnt.av a2.Ahead]]⟩)]⟩) (fun n (a : Int) => d_ref14_sameEnt_L1 a1 a2 n a) (0 : Int) () h1 (fun _ => rfl)
              (leH_kn ⟨⟨_, rfl, (.refl _)⟩, ⟨_, rfl, (.refl _)⟩, ⟨_, rfl, (.refl _)⟩, ⟨_, rfl, (.refl _)⟩, trivial⟩ ⟨⟨_, rfl, (.refl _)⟩, ⟨_, rfl, (.refl _)⟩, trivial⟩) ?_
            rintro n y3_1 _ hm h1 Q3 ln3 lx3 lr3
            replace h1 : d_ref14_sameEnt_L1 a1 a2 (n + 1) y3_1 = some _ := h1
            replace hN := Nat.lt_trans (Nat.lt_of_succ_le hm) hN
            rw [d_ref14_sameEnt_L1] at h1
            refine c_show ⟨kn [(2, .pt 1 v3 0 0), (3, .pt 2 v4 0 0), (4, boo false), (6, int y3_1)], hk [(1, ⟨66, 8, true, true, v3, [[int a1.Now, boo a1.Closed, lst 4 GPool.av a1.Pools, lst 1 fI a1.Bal, lst 11 GRoll.av a1.Rolls, lst 1 fI a1.Prices, lst 1 fI a1.Down, lst 8 GEnt.av a1.Ahead]]⟩), (2, ⟨66, 8, true, true, v4, [[int a2.Now, boo a2.Closed, lst 4 GPool.av a2.Pools, lst 1 fI a2.Bal, lst 11 GRoll.av a2.Rolls, lst 1 fI a2.Prices, lst 1 fI a2.Down, lst 8 GEnt.av a2.Ahead]]⟩)]⟩ ?_
            refine c_seq ?_
            refine c_seq ?_
            refine c_reg ?_; intro K hK
            refine st rfl rfl rfl (yv_move rfl rfl) ?_
            refine st rfl rfl rfl (yv_fieldAddr rfl fo66_4 rfl (.pt rfl rfl rfl) (.pt _ _ _ _ _)) ?_
            refine st rfl rfl rfl (yv_load rfl sh64 rfl (.pt rfl rfl rfl) rfl) ?_
            refine st rfl rfl rfl (yv_len_sl rfl Try.underlying64 rfl (lst_len _)) ?_
            obtain ⟨x20, e20, h1⟩ := bnd_e h1
            refine st rfl rfl rfl (yv_to (y := boo x20) (yv_lss rfl rfl rfl) (congrArg boo e20)) ?_
            refine rg_nil (hK _ ?_)
            refine c_if (b := x20) rfl ?_ ?_
            · intro hb; subst hb; replace h1 := ct h1
              refine c_skip ?_
              refine c_seq ?_
              refine c_block ?_; intro Q4 bn4 bx4 br4 bo4
              refine c_seq ?_
              refine c_drawE [0, 1, 0, 7, 15, 31, 0, 64, 0, 448, 960, 2047, 4095] (fun i => bif Nat.beq i 0 then ([1]) else bif Nat.beq i 1 then ([1]) else bif Nat.beq i 6 then ([2]) else bif Nat.beq i 7 then ([2]) else []) (fun i => [1, 2]) (fun i => true) [0, 1, 2, 3, 4, 5, 6, 7, 8, 9, 10, 11, 12] mixed (by kernel_rfl) ?_; intro K hK
              refine de_pure rfl rfl rfl rfl (fun H hH => yv_fieldAddr rfl fo66_4 rfl (.pt ((hH _ (by decide)).trans rfl) rfl rfl) (.pt _ _ _ _ _)) ?_
              refine de_pure rfl rfl rfl rfl (fun H hH => yv_load rfl sh64 rfl (.pt ((hH _ (by decide)).trans rfl) rfl rfl) rfl) ?_
              refine de_pure rfl rfl rfl rfl (fun H hH => yv_move rfl rfl) ?_
              obtain ⟨x21, e21, h1⟩ := bind_e h1
              refine de_pure rfl rfl rfl rfl (fun H hH => yv_ixT rfl Try.underlying64 sh68 rfl rfl e21) ?_
              refine de_pure rfl rfl rfl rfl (fun H hH => yv_load rfl sh68 rfl (.pp _) rfl) ?_
              obtain ⟨x22, e22, h1⟩ := bind_e h1
              refine de_pure rfl rfl rfl rfl (fun H hH => yv_callP rfl rfl (.cons rfl .nil) cal70 (CvL.refl _) (d_ref14_Numbers_c e22)) ?_
              refine de_pure rfl rfl rfl rfl (fun H hH => yv_fieldAddr rfl fo66_4 rfl (.pt ((hH _ (by decide)).trans rfl) rfl rfl) (.pt _ _ _ _ _)) ?_
              refine de_pure rfl rfl rfl rfl (fun H hH => yv_load rfl sh64 rfl (.pt ((hH _ (by decide)).trans rfl) rfl rfl) rfl) ?_
              refine de_pure rfl rfl rfl rfl (fun H hH => yv_move rfl rfl) ?_
              obtain ⟨x23, e23, h1⟩ := bind_e h1
              refine de_pure rfl rfl rfl rfl (fun H hH => yv_ixT rfl Try.underlying64 sh68 rfl rfl e23) ?_
              refine de_pure rfl rfl rfl rfl (fun H hH => yv_load rfl sh68 rfl (.pp _) rfl) ?_
              obtain ⟨x24, e24, h1⟩ := bind_e h1
              refine de_pure rfl rfl rfl rfl (fun H hH => yv_callP rfl rfl (.cons rfl .nil) cal70 (CvL.refl _) (d_ref14_Numbers_c e24)) ?_
              obtain ⟨x25, e25, h1⟩ := bnd_e h1
              refine de_pure rfl rfl rfl rfl (fun H hH => yv_arneq (r' := x25) rfl Try.underlying110 sz3 c3 (by decide) rfl rfl (.cons (.int Try.underlying3) sh3 (.cons (.int Try.underlying3) sh3 (.cons (.int Try.underlying3) sh3 (.cons (.int Try.underlying3) sh3 (.cons (.int Try.underlying3) sh3 (.cons (.int Try.underlying3) sh3 (.cons (.int Try.underlying3) sh3 (.cons (.int Try.underlying3) sh3 (.cons (.int Try.underlying3) sh3 (.cons (.int Try.underlying3) sh3 (.cons (.int Try.underlying3) sh3 (.nil _)))))))))))) ((congrArg Bool.not (A11_Int.eqv (x22 : A11_Int) (x24 : A11_Int))).trans e25)) ?_
              refine de_nil (hK _ ?_)
              refine c_if (b := x25) rfl ?_ ?_
              · intro hb; subst hb; replace h1 := ct h1
                refine c_seq ?_
                refine c_reg ?_; intro K hK
                refine st rfl rfl rfl (yv_assign rfl rfl) ?_
                refine rg_nil (hK _ ?_)
                obtain ⟨c26, hX, hj⟩ := esc_e h1; subst hj; replace h0 := hX.trans (sel_r h0)
                obtain rfl := nxt_e h0
                refine c_ret (br4 _ (lr3 _ (br2 _ (jr1 _ (hret _ _ _ (.tmp rfl .nil) (fun _ _ h => h) ?_)))))
                exact .refl _
              · intro hb; subst hb; replace h1 := cf h1
                refine c_skip ?_
                refine c_nil (bn4 _ ?_)
                refine c_reg ?_; intro K hK
                refine st rfl rfl rfl (yv_move rfl rfl) ?_
                obtain ⟨x27, e27, h1⟩ := bnd_e h1
                refine st rfl rfl rfl (yv_add rfl rfl rfl e27) ?_
                refine st rfl rfl rfl (yv_assign rfl rfl) ?_
                refine rg_nil (hK _ ?_)
                refine c_nil (ln3 _ ⟨x27, (), h1, leH_kn ⟨⟨_, rfl, (.refl _)⟩, ⟨_, rfl, (.refl _)⟩, ⟨_, rfl, (.refl _)⟩, ⟨_, rfl, (.refl _)⟩, trivial⟩ ⟨⟨_, rfl, (.refl _)⟩, ⟨_, rfl, (.refl _)⟩, trivial⟩⟩)
            · intro hb; subst hb; replace h1 := cf h1
              refine c_exit (lx3 _ _ (bx2 _ ?_))
              obtain rfl := brk_e h1
              refine c_nil (jn1 _ ⟨(), (), rfl, leH_kn ⟨⟨_, rfl, (.refl _)⟩, ⟨_, rfl, (.refl _)⟩, ⟨_, rfl, (.refl _)⟩, trivial⟩ ⟨⟨_, rfl, (.refl _)⟩, ⟨_, rfl, (.refl _)⟩, trivial⟩⟩)
          · rintro _ _ rfl
            replace h0 := sel_l h0
            refine c_show ⟨kn [(2, .pt 1 v3 0 0), (3, .pt 2 v4 0 0), (4, boo false)], hk [(1, ⟨66, 8, true, true, v3, [[int a1.Now, boo a1.Closed, lst 4 GPool.av a1.Pools, lst 1 fI a1.Bal, lst 11 GRoll.av a1.Rolls, lst 1 fI a1.Prices, lst 1 fI a1.Down, lst 8 GEnt.av a1.Ahead]]⟩), (2, ⟨66, 8, true, true, v4, [[int a2.Now, boo a2.Closed, lst 4 GPool.av a2.Pools, lst 1 fI a2.Bal, lst 11 GRoll.av a2.Rolls, lst 1 fI a2.Prices, lst 1 fI a2.Down, lst 8 GEnt.av a2.Ahead]]⟩)]⟩ ?_
            refine c_seq ?_
            refine c_seq ?_
            refine c_reg ?_; intro K hK
            refine st rfl rfl rfl (yv_assign rfl rfl) ?_
            refine rg_nil (hK _ ?_)
            obtain ⟨j28, h1, h0⟩ := bind_e h0
            refine c_joinL (fun (a : Unit) (k : Unit) => ⟨kn [(2, .pt 1 v3 0 0), (3, .pt 2 v4 0 0), (4, boo false)], hk [(1, ⟨66, 8, true, true, v3, [[int a1.Now, boo a1.Closed, lst 4 GPool.av a1.Pools, lst 1 fI a1.Bal, lst 11 GRoll.av a1.Rolls, lst 1 fI a1.Prices, lst 1 fI a1.Down, lst 8 GEnt.av a1.Ahead]]⟩), (2, ⟨66, 8, true, true, v4, [[int a2.Now, boo a2.Closed, lst 4 GPool.av a2.Pools, lst 1 fI a2.Bal, lst 11 GRoll.av a2.Rolls, lst 1 fI a2.Prices, lst 1 fI a2.Down, lst 8 GEnt.av a2.Ahead]]⟩)]⟩) (fun a => j28 = .inl a) ?_ ?_
            · intro Q1 jn1 jx1 jr1
              refine c_block ?_; intro Q2 bn2 bx2 br2 bo2
              refine c_loopD (fun (a : Int) (k : Unit) => ⟨kn [(2, .pt 1 v3 0 0), (3, .pt 2 v4 0 0), (4, boo false), (7, int a)], hk [(1, ⟨66, 8, true, true, v3, [[int a1.Now, boo a1.Closed, lst 4 GPool.av a1.Pools, lst 1 fI a1.Bal, lst 11 GRoll.av a1.Rolls, lst 1 fI a1.Prices, lst 1 fI a1.Down, lst 8 GEnt.av a1.Ahead]]⟩), (2, ⟨66, 8, true, true, v4, [[int a2.Now, boo a2.Closed, lst 4 GPool.av a2.Pools, lst 1 fI a2.Bal, lst 11 GRoll.av a2.Rolls, lst 1 fI a2.Prices, lst 1 fI a2.Down, lst 8 GEnt.av a2.Ahead]]⟩)]⟩) (fun n (a : Int) => d_ref14_sameEnt_L2 a1 a2 n a) (0 : Int) () h1 (fun _ => rfl)
                (leH_kn ⟨⟨_, rfl, (.refl _)⟩, ⟨_, rfl, (.refl _)⟩, ⟨_, rfl, (.refl _)⟩, ⟨_, rfl, (.refl _)⟩, trivial⟩ ⟨⟨_, rfl, (.refl _)⟩, ⟨_, rfl, (.refl _)⟩, trivial⟩) ?_
              rintro n y5_1 _ hm h1 Q3 ln3 lx3 lr3
              replace h1 : d_ref14_sameEnt_L2 a1 a2 (n + 1) y5_1 = some _ := h1
              replace hN := Nat.lt_trans (Nat.lt_of_succ_le hm) hN
              rw [d_ref14_sameEnt_L2] at h1
              refine c_show ⟨kn [(2, .pt 1 v3 0 0), (3, .pt 2 v4 0 0), (4, boo false), (7, int y5_1)], hk [(1, ⟨66, 8, true, true, v3, [[int a1.Now, boo a1.Closed, lst 4 GPool.av a1.Pools, lst 1 fI a1.Bal, lst 11 GRoll.av a1.Rolls, lst 1 fI a1.Prices, lst 1 fI a1.Down, lst 8 GEnt.av a1.Ahead]]⟩), (2, ⟨66, 8, true, true, v4, [[int a2.Now, boo a2.Closed, lst 4 GPool.av a2.Pools, lst 1 fI a2.Bal, lst 11 GRoll.av a2.Rolls, lst 1 fI a2.Prices, lst 1 fI a2.Down, lst 8 GEnt.av a2.Ahead]]⟩)]⟩ ?_
              refine c_seq ?_
              refine c_seq ?_
              refine c_reg ?_; intro K hK
              refine st rfl rfl rfl (yv_move rfl rfl) ?_
              refine st rfl rfl rfl (yv_fieldAddr rfl fo66_7 rfl (.pt rfl rfl rfl) (.pt _ _ _ _ _)) ?_
              refine st rfl rfl rfl (yv_load rfl sh48 rfl (.pt rfl rfl rfl) rfl) ?_
              refine st rfl rfl rfl (yv_len_sl rfl Try.underlying48 rfl (lst_len _)) ?_
              obtain ⟨x29, e29, h1⟩ := bnd_e h1
              refine st rfl rfl rfl (yv_to (y := boo x29) (yv_lss rfl rfl rfl) (congrArg boo e29)) ?_
              refine rg_nil (hK _ ?_)
              refine c_if (b := x29) rfl ?_ ?_
              · intro hb; subst hb; replace h1 := ct h1
                refine c_skip ?_
                refine c_seq ?_
                refine c_block ?_; intro Q4 bn4 bx4 br4 bo4
                refine c_seq ?_
                refine c_drawE [0, 1, 0, 7, 15, 0, 32, 0, 224, 480, 1023, 2047] (fun i => bif Nat.beq i 0 then ([1]) else bif Nat.beq i 1 then ([1]) else bif Nat.beq i 5 then ([2]) else bif Nat.beq i 6 then ([2]) else []) (fun i => [1, 2]) (fun i => true) [0, 1, 2, 3, 4, 5, 6, 7, 8, 9, 10, 11] mixed (by kernel_rfl) ?_; intro K hK
                refine de_pure rfl rfl rfl rfl (fun H hH => yv_fieldAddr rfl fo66_7 rfl (.pt ((hH _ (by decide)).trans rfl) rfl rfl) (.pt _ _ _ _ _)) ?_
                refine de_pure rfl rfl rfl rfl (fun H hH => yv_load rfl sh48 rfl (.pt ((hH _ (by decide)).trans rfl) rfl rfl) rfl) ?_
                refine de_pure rfl rfl rfl rfl (fun H hH => yv_move rfl rfl) ?_
                obtain ⟨x30, e30, h1⟩ := bind_e h1
                refine de_pure rfl rfl rfl rfl (fun H hH => yv_to (y := .pp [int x30.Now, boo x30.Closed, lst 4 GPool.av x30.Pools, lst 1 fI x30.Bal, lst 11 GRoll.av x30.Rolls, lst 1 fI x30.Prices, lst 1 fI x30.Down, lst 8 GEnt.av x30.Ahead]) (yv_ixT rfl Try.underlying48 sh66 rfl rfl e30) (congrArg AV.pp (GEnt.av_eq x30))) ?_
                refine de_pure rfl rfl rfl rfl (fun H hH => yv_load rfl sh66 rfl (.pp _) rfl) ?_
                refine de_pure rfl rfl rfl rfl (fun H hH => yv_fieldAddr rfl fo66_7 rfl (.pt ((hH _ (by decide)).trans rfl) rfl rfl) (.pt _ _ _ _ _)) ?_
                refine de_pure rfl rfl rfl rfl (fun H hH => yv_load rfl sh48 rfl (.pt ((hH _ (by decide)).trans rfl) rfl rfl) rfl) ?_
                refine de_pure rfl rfl rfl rfl (fun H hH => yv_move rfl rfl) ?_
                obtain ⟨x31, e31, h1⟩ := bind_e h1
                refine de_pure rfl rfl rfl rfl (fun H hH => yv_to (y := .pp [int x31.Now, boo x31.Closed, lst 4 GPool.av x31.Pools, lst 1 fI x31.Bal, lst 11 GRoll.av x31.Rolls, lst 1 fI x31.Prices, lst 1 fI x31.Down, lst 8 GEnt.av x31.Ahead]) (yv_ixT rfl Try.underlying48 sh66 rfl rfl e31) (congrArg AV.pp (GEnt.av_eq x31))) ?_
                refine de_pure rfl rfl rfl rfl (fun H hH => yv_load rfl sh66 rfl (.pp _) rfl) ?_
                obtain ⟨x32, e32, h1⟩ := bind_e h1
                refine de_pure rfl rfl rfl rfl (fun H hH => yv_callP rfl rfl (.cons rfl (.cons rfl .nil)) cal62 (CvL.refl _) (ih _ hN e32)) ?_
                obtain ⟨x33, e33, h1⟩ := bnd_e h1
                refine de_pure rfl rfl rfl rfl (fun H hH => yv_not rfl rfl e33) ?_
                refine de_nil (hK _ ?_)
                refine c_if (b := x33) rfl ?_ ?_
                · intro hb; subst hb; replace h1 := ct h1
                  refine c_seq ?_
                  refine c_reg ?_; intro K hK
                  refine st rfl rfl rfl (yv_assign rfl rfl) ?_
                  refine rg_nil (hK _ ?_)
                  obtain ⟨c34, hX, hj⟩ := esc_e h1; subst hj; replace h0 := hX.trans (sel_r h0)
                  obtain rfl := nxt_e h0
                  refine c_ret (br4 _ (lr3 _ (br2 _ (jr1 _ (hret _ _ _ (.tmp rfl .nil) (fun _ _ h => h) ?_)))))
                  exact .refl _
                · intro hb; subst hb; replace h1 := cf h1
                  refine c_skip ?_
                  refine c_nil (bn4 _ ?_)
                  refine c_reg ?_; intro K hK
                  refine st rfl rfl rfl (yv_move rfl rfl) ?_
                  obtain ⟨x35, e35, h1⟩ := bnd_e h1
                  refine st rfl rfl rfl (yv_add rfl rfl rfl e35) ?_
                  refine st rfl rfl rfl (yv_assign rfl rfl) ?_
                  refine rg_nil (hK _ ?_)
                  refine c_nil (ln3 _ ⟨x35, (), h1, leH_kn ⟨⟨_, rfl, (.refl _)⟩, ⟨_, rfl, (.refl _)⟩, ⟨_, rfl, (.refl _)⟩, ⟨_, rfl, (.refl _)⟩, trivial⟩ ⟨⟨_, rfl, (.refl _)⟩, ⟨_, rfl, (.refl _)⟩, trivial⟩⟩)
              · intro hb; subst hb; replace h1 := cf h1
                refine c_exit (lx3 _ _ (bx2 _ ?_))
                obtain rfl := brk_e h1
                refine c_nil (jn1 _ ⟨(), (), rfl, leH_kn ⟨⟨_, rfl, (.refl _)⟩, ⟨_, rfl, (.refl _)⟩, ⟨_, rfl, (.refl _)⟩, trivial⟩ ⟨⟨_, rfl, (.refl _)⟩, ⟨_, rfl, (.refl _)⟩, trivial⟩⟩)
            · rintro _ _ rfl
              replace h0 := sel_l h0
              refine c_show ⟨kn [(2, .pt 1 v3 0 0), (3, .pt 2 v4 0 0), (4, boo false)], hk [(1, ⟨66, 8, true, true, v3, [[int a1.Now, boo a1.Closed, lst 4 GPool.av a1.Pools, lst 1 fI a1.Bal, lst 11 GRoll.av a1.Rolls, lst 1 fI a1.Prices, lst 1 fI a1.Down, lst 8 GEnt.av a1.Ahead]]⟩), (2, ⟨66, 8, true, true, v4, [[int a2.Now, boo a2.Closed, lst 4 GPool.av a2.Pools, lst 1 fI a2.Bal, lst 11 GRoll.av a2.Rolls, lst 1 fI a2.Prices, lst 1 fI a2.Down, lst 8 GEnt.av a2.Ahead]]⟩)]⟩ ?_
              refine c_seq ?_
              obtain ⟨j36, h1, h0⟩ := bind_e h0
              refine c_regL (fun (a : Bool) (k : Unit) => ⟨kn [(4, boo a)], hk []⟩) (fun a => a = j36) ?_ ?_
              · intro K hK
                refine st rfl rfl rfl (yv_fieldAddr rfl fo66_3 rfl (.pt rfl rfl rfl) (.pt _ _ _ _ _)) ?_
                refine st rfl rfl rfl (yv_load rfl sh22 rfl (.pt rfl rfl rfl) rfl) ?_
                refine st rfl rfl rfl (yv_fieldAddr rfl fo66_3 rfl (.pt rfl rfl rfl) (.pt _ _ _ _ _)) ?_
                refine st rfl rfl rfl (yv_load rfl sh22 rfl (.pt rfl rfl rfl) rfl) ?_
                obtain ⟨x37, e37, h1⟩ := bind_e h1
                refine st rfl rfl rfl (yv_callP rfl rfl (.cons rfl (.cons rfl .nil)) cal16 (CvL.refl _) (d_ref04_SameInts_c e37)) ?_
                refine st rfl rfl rfl (yv_move rfl rfl) ?_
                refine scases 110 rfl ?_ ?_
                · intro hb; subst hb; replace h1 := ct h1
                  refine st rfl rfl rfl (yv_fieldAddr rfl fo66_5 rfl (.pt rfl rfl rfl) (.pt _ _ _ _ _)) ?_
                  refine st rfl rfl rfl (yv_load rfl sh22 rfl (.pt rfl rfl rfl) rfl) ?_
                  refine st rfl rfl rfl (yv_fieldAddr rfl fo66_5 rfl (.pt rfl rfl rfl) (.pt _ _ _ _ _)) ?_
                  refine st rfl rfl rfl (yv_load rfl sh22 rfl (.pt rfl rfl rfl) rfl) ?_
                  obtain ⟨x38, e38, h1⟩ := bind_e h1
                  refine st rfl rfl rfl (yv_callP rfl rfl (.cons rfl (.cons rfl .nil)) cal16 (CvL.refl _) (d_ref04_SameInts_c e38)) ?_
                  refine st rfl rfl rfl (yv_pick rfl rfl (fun _ => rfl) (fun _ => rfl) rfl) ?_
                  refine st rfl rfl rfl (yv_move rfl rfl) ?_
                  refine scases 117 rfl ?_ ?_
                  · intro hb; subst hb; replace h1 := ct h1
                    refine st rfl rfl rfl (yv_fieldAddr rfl fo66_6 rfl (.pt rfl rfl rfl) (.pt _ _ _ _ _)) ?_
                    refine st rfl rfl rfl (yv_load rfl sh22 rfl (.pt rfl rfl rfl) rfl) ?_
                    refine st rfl rfl rfl (yv_fieldAddr rfl fo66_6 rfl (.pt rfl rfl rfl) (.pt _ _ _ _ _)) ?_
                    refine st rfl rfl rfl (yv_load rfl sh22 rfl (.pt rfl rfl rfl) rfl) ?_
                    obtain ⟨x39, e39, h1⟩ := bind_e h1
                    refine st rfl rfl rfl (yv_callP rfl rfl (.cons rfl (.cons rfl .nil)) cal16 (CvL.refl _) (d_ref04_SameInts_c e39)) ?_
                    refine st rfl rfl rfl (yv_pick rfl rfl (fun _ => rfl) (fun _ => rfl) rfl) ?_
                    refine st rfl rfl rfl (yv_assign rfl rfl) ?_
                    obtain rfl := nxt_e h1
                    refine rg_nil (hK _ ⟨x39, (), rfl, leH_kn ⟨⟨_, rfl, (.refl _)⟩, trivial⟩ trivial⟩)
                  · intro hb; subst hb; replace h1 := cf h1
                    refine sk rfl rfl rfl ?_
                    refine sk rfl rfl rfl ?_
                    refine sk rfl rfl rfl ?_
                    refine sk rfl rfl rfl ?_
                    refine sk rfl rfl rfl ?_
                    refine st rfl rfl rfl (yv_pick rfl rfl (fun _ => rfl) (fun _ => rfl) rfl) ?_
                    refine st rfl rfl rfl (yv_assign rfl rfl) ?_
                    obtain rfl := nxt_e h1
                    refine rg_nil (hK _ ⟨false, (), rfl, leH_kn ⟨⟨_, rfl, (.refl _)⟩, trivial⟩ trivial⟩)
                · intro hb; subst hb; replace h1 := cf h1
                  refine sk rfl rfl rfl ?_
                  refine sk rfl rfl rfl ?_
                  refine sk rfl rfl rfl ?_
                  refine sk rfl rfl rfl ?_
                  refine sk rfl rfl rfl ?_
                  refine st rfl rfl rfl (yv_pick rfl rfl (fun _ => rfl) (fun _ => rfl) rfl) ?_
                  refine st rfl rfl rfl (yv_move rfl rfl) ?_
                  refine sk rfl rfl rfl ?_
                  refine sk rfl rfl rfl ?_
                  refine sk rfl rfl rfl ?_
                  refine sk rfl rfl rfl ?_
                  refine sk rfl rfl rfl ?_
                  refine st rfl rfl rfl (yv_pick rfl rfl (fun _ => rfl) (fun _ => rfl) rfl) ?_
                  refine st rfl rfl rfl (yv_assign rfl rfl) ?_
                  obtain rfl := nxt_e h1
                  refine rg_nil (hK _ ⟨false, (), rfl, leH_kn ⟨⟨_, rfl, (.refl _)⟩, trivial⟩ trivial⟩)
              · rintro y7_1 _ rfl
                refine c_show ⟨kn [(4, boo y7_1)], hk []⟩ ?_
                obtain rfl := nxt_e h0
                refine c_ret (hret _ _ _ (.tmp rfl .nil) (fun _ _ h => h) ?_)
                exact .refl _
def d_ref14_Same_L0 (a1 : GState) (a2 : GState) : Nat → Int → Option ((Unit) ⊕ (Bool))
  | 0, _ => none
  | n + 1, y1_1 =>
    bnd (decide (y1_1 < (a1.Ents.length : Int))) fun (x13 : Bool) =>
    cond x13 ((ix a1.Ents y1_1).bind fun (x14 : GEnt) =>
    (ix a2.Ents y1_1).bind fun (x15 : GEnt) =>
    (d_ref14_sameEnt n x14 x15).bind fun (x16 : Bool) =>
    bnd (!x16) fun (x17 : Bool) =>
    cond x17 (esc (some ((false : Bool)))) (bnd (w64 (y1_1 + 1)) fun (x19 : Int) =>
    d_ref14_Same_L0 a1 a2 n (x19 : Int))) (brk ())
def d_ref14_Same (n : Nat) (a1 : GState) (a2 : GState) : Option (Bool) :=
(show Option (Bool) from
(d_ref04_Same n a1.Master a2.Master).bind fun (x6 : Bool) =>
bnd (!x6) fun (x7 : Bool) =>
cond x7 (some (true : Bool)) (bnd (decide ((a1.Ents.length : Int) ≠ (a2.Ents.length : Int))) fun (x8 : Bool) =>
cond x8 (some (true : Bool)) (bnd (decide (a1.Done ≠ a2.Done)) fun (x9 : Bool) =>
cond x9 (some (true : Bool)) ((d_ref14_samePapers n a1 a2).bind fun (x10 : Bool) =>
bnd (!x10) fun (x11 : Bool) =>
some (x11 : Bool))))).bind <| fun (y0_1 : Bool) =>
cond y0_1 (some ((false : Bool))) ((show Option ((Unit) ⊕ (Bool)) from
d_ref14_Same_L0 a1 a2 n (0 : Int)).bind <| sel <| fun (_ : Unit) =>
some ((true : Bool)))
theorem d_ref14_Same_c {n : Nat} {a1 : GState} {a2 : GState} {r : Bool} (h0 : d_ref14_Same n a1 a2 = some r) : PP Try.prog 36 [.agg (GState.av a1), .agg (GState.av a2)] (fun y => y = boo r) := by
  unfold d_ref14_Same at h0
  refine pp_of_pc (R0 := fun y H => Cv (frzH H) y (boo r)) ?_ (fun y H hc => ⟨_, rfl, pvB r, hc⟩)
  refine pc_of' (c := _) Try.func36 rfl rfl ?_; intro Q hret hnorm
  refine c_seq ?_
  refine c_reg ?_; intro K hK
  refine se rfl rfl rfl (yl_box 1 .any rfl rfl rfl) ?_; rintro _ _ ⟨v3, -, rfl, rfl⟩
  refine se rfl rfl rfl (yl_box 2 .any rfl rfl rfl) ?_; rintro _ _ ⟨v4, -, rfl, rfl⟩
  refine st rfl rfl rfl (yv_assign rfl rfl) ?_
  refine rg_nil (hK _ ?_)
  refine c_seq ?_
  refine c_seq ?_
  obtain ⟨j5, h1, h0⟩ := bind_e h0
  refine c_regL (fun (a : Bool) (k : Unit) => ⟨kn [(2, .pt 1 v3 0 0), (3, .pt 2 v4 0 0), (4, boo false), (33, boo a)], hk [(1, ⟨53, 10, true, true, v3, [[int a1.Master.Entities, int a1.Master.Periods, lst 1 fI a1.Master.Weights, lst 1 (fL 1 fI) a1.Master.Methods, lst 1 (fL 1 fI) a1.Master.Costs, lst 8 GEnt.av a1.Ents, lst 8 GReceipt.av a1.Receipts, lst 9 GSale.av a1.Sales, lst 6 GTransit.av a1.Transits, int a1.Done]]⟩), (2, ⟨53, 10, true, true, v4, [[int a2.Master.Entities, int a2.Master.Periods, lst 1 fI a2.Master.Weights, lst 1 (fL 1 fI) a2.Master.Methods, lst 1 (fL 1 fI) a2.Master.Costs, lst 8 GEnt.av a2.Ents, lst 8 GReceipt.av a2.Receipts, lst 9 GSale.av a2.Sales, lst 6 GTransit.av a2.Transits, int a2.Done]]⟩)]⟩) (fun a => a = j5) ?_ ?_
  · intro K hK
    refine st rfl rfl rfl (yv_fieldAddr rfl fo53_0 rfl (.pt rfl rfl rfl) (.pt _ _ _ _ _)) ?_
    refine st rfl rfl rfl (yv_load rfl sh43 rfl (.pt rfl rfl rfl) rfl) ?_
    refine st rfl rfl rfl (yv_fieldAddr rfl fo53_0 rfl (.pt rfl rfl rfl) (.pt _ _ _ _ _)) ?_
    refine st rfl rfl rfl (yv_load rfl sh43 rfl (.pt rfl rfl rfl) rfl) ?_
    obtain ⟨x6, e6, h1⟩ := bind_e h1
    refine st rfl rfl rfl (yv_callP rfl rfl (.cons rfl (.cons rfl .nil)) cal33 (CvL.refl _) (d_ref04_Same_c e6)) ?_
    obtain ⟨x7, e7, h1⟩ := bnd_e h1
    refine st rfl rfl rfl (yv_not rfl rfl e7) ?_
    refine st rfl rfl rfl (yv_move rfl rfl) ?_
    refine scases 12 rfl ?_ ?_
    · intro hb; subst hb; replace h1 := ct h1
      refine sk rfl rfl rfl ?_
      refine sk rfl rfl rfl ?_
      refine sk rfl rfl rfl ?_
      refine sk rfl rfl rfl ?_
      refine sk rfl rfl rfl ?_
      refine sk rfl rfl rfl ?_
      refine sk rfl rfl rfl ?_
      refine st rfl rfl rfl (yv_pick rfl rfl (fun _ => rfl) (fun _ => rfl) rfl) ?_
      refine st rfl rfl rfl (yv_move rfl rfl) ?_
      refine sk rfl rfl rfl ?_
      refine sk rfl rfl rfl ?_
      refine sk rfl rfl rfl ?_
      refine sk rfl rfl rfl ?_
      refine sk rfl rfl rfl ?_
      refine st rfl rfl rfl (yv_pick rfl rfl (fun _ => rfl) (fun _ => rfl) rfl) ?_
      refine st rfl rfl rfl (yv_move rfl rfl) ?_
      refine sk rfl rfl rfl ?_
      refine sk rfl rfl rfl ?_
      refine sk rfl rfl rfl ?_
      refine sk rfl rfl rfl ?_
      refine st rfl rfl rfl (yv_pick rfl rfl (fun _ => rfl) (fun _ => rfl) rfl) ?_
      obtain rfl := nxt_e h1
      refine rg_nil (hK _ ⟨true, (), rfl, leH_kn ⟨⟨_, rfl, (.refl _)⟩, ⟨_, rfl, (.refl _)⟩, ⟨_, rfl, (.refl _)⟩, ⟨_, rfl, (.refl _)⟩, trivial⟩ ⟨⟨_, rfl, (.refl _)⟩, ⟨_, rfl, (.refl _)⟩, trivial⟩⟩)
    · intro hb; subst hb; replace h1 := cf h1
      refine st rfl rfl rfl (yv_fieldAddr rfl fo53_1 rfl (.pt rfl rfl rfl) (.pt _ _ _ _ _)) ?_
      refine st rfl rfl rfl (yv_load rfl sh48 rfl (.pt rfl rfl rfl) rfl) ?_
      refine st rfl rfl rfl (yv_len_sl rfl Try.underlying48 rfl (lst_len _)) ?_
      refine st rfl rfl rfl (yv_fieldAddr rfl fo53_1 rfl (.pt rfl rfl rfl) (.pt _ _ _ _ _)) ?_
      refine st rfl rfl rfl (yv_load rfl sh48 rfl (.pt rfl rfl rfl) rfl) ?_
      refine st rfl rfl rfl (yv_len_sl rfl Try.underlying48 rfl (lst_len _)) ?_
      obtain ⟨x8, e8, h1⟩ := bnd_e h1
      refine st rfl rfl rfl (yv_to (y := boo x8) (yv_neq rfl rfl rfl) (congrArg boo e8)) ?_
      refine st rfl rfl rfl (yv_pick rfl rfl (fun _ => rfl) (fun _ => rfl) rfl) ?_
      refine st rfl rfl rfl (yv_move rfl rfl) ?_
      refine scases 21 rfl ?_ ?_
      · intro hb; subst hb; replace h1 := ct h1
        refine sk rfl rfl rfl ?_
        refine sk rfl rfl rfl ?_
        refine sk rfl rfl rfl ?_
        refine sk rfl rfl rfl ?_
        refine sk rfl rfl rfl ?_
        refine st rfl rfl rfl (yv_pick rfl rfl (fun _ => rfl) (fun _ => rfl) rfl) ?_
        refine st rfl rfl rfl (yv_move rfl rfl) ?_
        refine sk rfl rfl rfl ?_
        refine sk rfl rfl rfl ?_
        refine sk rfl rfl rfl ?_
        refine sk rfl rfl rfl ?_
        refine st rfl rfl rfl (yv_pick rfl rfl (fun _ => rfl) (fun _ => rfl) rfl) ?_
        obtain rfl := nxt_e h1
        refine rg_nil (hK _ ⟨true, (), rfl, leH_kn ⟨⟨_, rfl, (.refl _)⟩, ⟨_, rfl, (.refl _)⟩, ⟨_, rfl, (.refl _)⟩, ⟨_, rfl, (.refl _)⟩, trivial⟩ ⟨⟨_, rfl, (.refl _)⟩, ⟨_, rfl, (.refl _)⟩, trivial⟩⟩)
      · intro hb; subst hb; replace h1 := cf h1
        refine st rfl rfl rfl (yv_fieldAddr rfl fo53_5 rfl (.pt rfl rfl rfl) (.pt _ _ _ _ _)) ?_
        refine st rfl rfl rfl (yv_load rfl sh3 rfl (.pt rfl rfl rfl) rfl) ?_
        refine st rfl rfl rfl (yv_fieldAddr rfl fo53_5 rfl (.pt rfl rfl rfl) (.pt _ _ _ _ _)) ?_
        refine st rfl rfl rfl (yv_load rfl sh3 rfl (.pt rfl rfl rfl) rfl) ?_
        obtain ⟨x9, e9, h1⟩ := bnd_e h1
        refine st rfl rfl rfl (yv_to (y := boo x9) (yv_neq rfl rfl rfl) (congrArg boo e9)) ?_
        refine st rfl rfl rfl (yv_pick rfl rfl (fun _ => rfl) (fun _ => rfl) rfl) ?_
        refine st rfl rfl rfl (yv_move rfl rfl) ?_
        refine scases 28 rfl ?_ ?_
        · intro hb; subst hb; replace h1 := ct h1
          refine sk rfl rfl rfl ?_
          refine sk rfl rfl rfl ?_
          refine sk rfl rfl rfl ?_
          refine sk rfl rfl rfl ?_
          refine st rfl rfl rfl (yv_pick rfl rfl (fun _ => rfl) (fun _ => rfl) rfl) ?_
          obtain rfl := nxt_e h1
          refine rg_nil (hK _ ⟨true, (), rfl, leH_kn ⟨⟨_, rfl, (.refl _)⟩, ⟨_, rfl, (.refl _)⟩, ⟨_, rfl, (.refl _)⟩, ⟨_, rfl, (.refl _)⟩, trivial⟩ ⟨⟨_, rfl, (.refl _)⟩, ⟨_, rfl, (.refl _)⟩, trivial⟩⟩)
        · intro hb; subst hb; replace h1 := cf h1
          refine st rfl rfl rfl (yv_load rfl sh53 rfl (.pt rfl rfl rfl) rfl) ?_
          refine st rfl rfl rfl (yv_load rfl sh53 rfl (.pt rfl rfl rfl) rfl) ?_
          obtain ⟨x10, e10, h1⟩ := bind_e h1
          refine st rfl rfl rfl (yv_callP rfl rfl (.cons rfl (.cons rfl .nil)) cal61 (CvL.refl _) (d_ref14_samePapers_c e10)) ?_
          obtain ⟨x11, e11, h1⟩ := bnd_e h1
          refine st rfl rfl rfl (yv_not rfl rfl e11) ?_
          refine st rfl rfl rfl (yv_pick rfl rfl (fun _ => rfl) (fun _ => rfl) rfl) ?_
          obtain rfl := nxt_e h1
          refine rg_nil (hK _ ⟨x11, (), rfl, leH_kn ⟨⟨_, rfl, (.refl _)⟩, ⟨_, rfl, (.refl _)⟩, ⟨_, rfl, (.refl _)⟩, ⟨_, rfl, (.refl _)⟩, trivial⟩ ⟨⟨_, rfl, (.refl _)⟩, ⟨_, rfl, (.refl _)⟩, trivial⟩⟩)
  · rintro y0_1 _ rfl
    refine c_show ⟨kn [(2, .pt 1 v3 0 0), (3, .pt 2 v4 0 0), (4, boo false), (33, boo y0_1)], hk [(1, ⟨53, 10, true, true, v3, [[int a1.Master.Entities, int a1.Master.Periods, lst 1 fI a1.Master.Weights, lst 1 (fL 1 fI) a1.Master.Methods, lst 1 (fL 1 fI) a1.Master.Costs, lst 8 GEnt.av a1.Ents, lst 8 GReceipt.av a1.Receipts, lst 9 GSale.av a1.Sales, lst 6 GTransit.av a1.Transits, int a1.Done]]⟩), (2, ⟨53, 10, true, true, v4, [[int a2.Master.Entities, int a2.Master.Periods, lst 1 fI a2.Master.Weights, lst 1 (fL 1 fI) a2.Master.Methods, lst 1 (fL 1 fI) a2.Master.Costs, lst 8 GEnt.av a2.Ents, lst 8 GReceipt.av a2.Receipts, lst 9 GSale.av a2.Sales, lst 6 GTransit.av a2.Transits, int a2.Done]]⟩)]⟩ ?_
    refine c_if (b := y0_1) rfl ?_ ?_
    · intro hb; subst hb; replace h0 := ct h0
      refine c_seq ?_
      refine c_reg ?_; intro K hK
      refine st rfl rfl rfl (yv_assign rfl rfl) ?_
      refine rg_nil (hK _ ?_)
      obtain rfl := nxt_e h0
      refine c_ret (hret _ _ _ (.tmp rfl .nil) (fun _ _ h => h) ?_)
      exact .refl _
    · intro hb; subst hb; replace h0 := cf h0
      refine c_skip ?_
      refine c_seq ?_
      refine c_seq ?_
      refine c_reg ?_; intro K hK
      refine st rfl rfl rfl (yv_assign rfl rfl) ?_
      refine rg_nil (hK _ ?_)
      obtain ⟨j12, h1, h0⟩ := bind_e h0
      refine c_joinL (fun (a : Unit) (k : Unit) => ⟨kn [(4, boo false)], hk []⟩) (fun a => j12 = .inl a) ?_ ?_
      · intro Q1 jn1 jx1 jr1
        refine c_block ?_; intro Q2 bn2 bx2 br2 bo2
        refine c_loopD (fun (a : Int) (k : Unit) => ⟨kn [(2, .pt 1 v3 0 0), (3, .pt 2 v4 0 0), (4, boo false), (5, int a)], hk [(1, ⟨53, 10, true, true, v3, [[int a1.Master.Entities, int a1.Master.Periods, lst 1 fI a1.Master.Weights, lst 1 (fL 1 fI) a1.Master.Methods, lst 1 (fL 1 fI) a1.Master.Costs, lst 8 GEnt.av a1.Ents, lst 8 GReceipt.av a1.Receipts, lst 9 GSale.av a1.Sales, lst 6 GTransit.av a1.Transits, int a1.Done]]⟩), (2, ⟨53, 10, true, true, v4, [[int a2.Master.Entities, int a2.Master.Periods, lst 1 fI a2.Master.Weights, lst 1 (fL 1 fI) a2.Master.Methods, lst 1 (fL 1 fI) a2.Master.Costs, lst 8 GEnt.av a2.Ents, lst 8 GReceipt.av a2.Receipts, lst 9 GSale.av a2.Sales, lst 6 GTransit.av a2.Transits, int a2.Done]]⟩)]⟩) (fun n (a : Int) => d_ref14_Same_L0 a1 a2 n a) (0 : Int) () h1 (fun _ => rfl)
          (leH_kn ⟨⟨_, rfl, (.refl _)⟩, ⟨_, rfl, (.refl _)⟩, ⟨_, rfl, (.refl _)⟩, ⟨_, rfl, (.refl _)⟩, trivial⟩ ⟨⟨_, rfl, (.refl _)⟩, ⟨_, rfl, (.refl _)⟩, trivial⟩) ?_
        rintro n y1_1 _ hm h1 Q3 ln3 lx3 lr3
        replace h1 : d_ref14_Same_L0 a1 a2 (n + 1) y1_1 = some _ := h1
        rw [d_ref14_Same_L0] at h1
        refine c_show ⟨kn [(2, .pt 1 v3 0 0), (3, .pt 2 v4 0 0), (4, boo false), (5, int y1_1)], hk [(1, ⟨53, 10, true, true, v3, [[int a1.Master.Entities, int a1.Master.Periods, lst 1 fI a1.Master.Weights, lst 1 (fL 1 fI) a1.Master.Methods, lst 1 (fL 1 fI) a1.Master.Costs, lst 8 GEnt.av a1.Ents, lst 8 GReceipt.av a1.Receipts, lst 9 GSale.av a1.Sales, lst 6 GTransit.av a1.Transits, int a1.Done]]⟩), (2, ⟨53, 10, true, true, v4, [[int a2.Master.Entities, int a2.Master.Periods, lst 1 fI a2.Master.Weights, lst 1 (fL 1 fI) a2.Master.Methods, lst 1 (fL 1 fI) a2.Master.Costs, lst 8 GEnt.av a2.Ents, lst 8 GReceipt.av a2.Receipts, lst 9 GSale.av a2.Sales, lst 6 GTransit.av a2.Transits, int a2.Done]]⟩)]⟩ ?_
        refine c_seq ?_
        refine c_seq ?_
        refine c_reg ?_; intro K hK
        refine st rfl rfl rfl (yv_move rfl rfl) ?_
        refine st rfl rfl rfl (yv_fieldAddr rfl fo53_1 rfl (.pt rfl rfl rfl) (.pt _ _ _ _ _)) ?_
        refine st rfl rfl rfl (yv_load rfl sh48 rfl (.pt rfl rfl rfl) rfl) ?_
        refine st rfl rfl rfl (yv_len_sl rfl Try.underlying48 rfl (lst_len _)) ?_
        obtain ⟨x13, e13, h1⟩ := bnd_e h1
        refine st rfl rfl rfl (yv_to (y := boo x13) (yv_lss rfl rfl rfl) (congrArg boo e13)) ?_
        refine rg_nil (hK _ ?_)
        refine c_if (b := x13) rfl ?_ ?_
        · intro hb; subst hb; replace h1 := ct h1
          refine c_skip ?_
          refine c_seq ?_
          refine c_block ?_; intro Q4 bn4 bx4 br4 bo4
          refine c_seq ?_
          refine c_drawE [0, 1, 0, 7, 15, 0, 32, 0, 224, 480, 1023, 2047] (fun i => bif Nat.beq i 0 then ([1]) else bif Nat.beq i 1 then ([1]) else bif Nat.beq i 5 then ([2]) else bif Nat.beq i 6 then ([2]) else []) (fun i => [1, 2]) (fun i => true) [0, 1, 2, 3, 4, 5, 6, 7, 8, 9, 10, 11] mixed (by kernel_rfl) ?_; intro K hK
          refine de_pure rfl rfl rfl rfl (fun H hH => yv_fieldAddr rfl fo53_1 rfl (.pt ((hH _ (by decide)).trans rfl) rfl rfl) (.pt _ _ _ _ _)) ?_
          refine de_pure rfl rfl rfl rfl (fun H hH => yv_load rfl sh48 rfl (.pt ((hH _ (by decide)).trans rfl) rfl rfl) rfl) ?_
          refine de_pure rfl rfl rfl rfl (fun H hH => yv_move rfl rfl) ?_
          obtain ⟨x14, e14, h1⟩ := bind_e h1
          refine de_pure rfl rfl rfl rfl (fun H hH => yv_to (y := .pp [int x14.Now, boo x14.Closed, lst 4 GPool.av x14.Pools, lst 1 fI x14.Bal, lst 11 GRoll.av x14.Rolls, lst 1 fI x14.Prices, lst 1 fI x14.Down, lst 8 GEnt.av x14.Ahead]) (yv_ixT rfl Try.underlying48 sh66 rfl rfl e14) (congrArg AV.pp (GEnt.av_eq x14))) ?_
          refine de_pure rfl rfl rfl rfl (fun H hH => yv_load rfl sh66 rfl (.pp _) rfl) ?_
          refine de_pure rfl rfl rfl rfl (fun H hH => yv_fieldAddr rfl fo53_1 rfl (.pt ((hH _ (by decide)).trans rfl) rfl rfl) (.pt _ _ _ _ _)) ?_
          refine de_pure rfl rfl rfl rfl (fun H hH => yv_load rfl sh48 rfl (.pt ((hH _ (by decide)).trans rfl) rfl rfl) rfl) ?_
          refine de_pure rfl rfl rfl rfl (fun H hH => yv_move rfl rfl) ?_
          obtain ⟨x15, e15, h1⟩ := bind_e h1
          refine de_pure rfl rfl rfl rfl (fun H hH => yv_to (y := .pp [int x15.Now, boo x15.Closed, lst 4 GPool.av x15.Pools, lst 1 fI x15.Bal, lst 11 GRoll.av x15.Rolls, lst 1 fI x15.Prices, lst 1 fI x15.Down, lst 8 GEnt.av x15.Ahead]) (yv_ixT rfl Try.underlying48 sh66 rfl rfl e15) (congrArg AV.pp (GEnt.av_eq x15))) ?_
          refine de_pure rfl rfl rfl rfl (fun H hH => yv_load rfl sh66 rfl (.pp _) rfl) ?_
          obtain ⟨x16, e16, h1⟩ := bind_e h1
          refine de_pure rfl rfl rfl rfl (fun H hH => yv_callP rfl rfl (.cons rfl (.cons rfl .nil)) cal62 (CvL.refl _) (d_ref14_sameEnt_c e16)) ?_
          obtain ⟨x17, e17, h1⟩ := bnd_e h1
          refine de_pure rfl rfl rfl rfl (fun H hH => yv_not rfl rfl e17) ?_
          refine de_nil (hK _ ?_)
          refine c_if (b := x17) rfl ?_ ?_
          · intro hb; subst hb; replace h1 := ct h1
            refine c_seq ?_
            refine c_reg ?_; intro K hK
            refine st rfl rfl rfl (yv_assign rfl rfl) ?_
            refine rg_nil (hK _ ?_)
            obtain ⟨c18, hX, hj⟩ := esc_e h1; subst hj; replace h0 := hX.trans (sel_r h0)
            obtain rfl := nxt_e h0
            refine c_ret (br4 _ (lr3 _ (br2 _ (jr1 _ (hret _ _ _ (.tmp rfl .nil) (fun _ _ h => h) ?_)))))
            exact .refl _
          · intro hb; subst hb; replace h1 := cf h1
            refine c_skip ?_
            refine c_nil (bn4 _ ?_)
            refine c_reg ?_; intro K hK
            refine st rfl rfl rfl (yv_move rfl rfl) ?_
            obtain ⟨x19, e19, h1⟩ := bnd_e h1
            refine st rfl rfl rfl (yv_add rfl rfl rfl e19) ?_
            refine st rfl rfl rfl (yv_assign rfl rfl) ?_
            refine rg_nil (hK _ ?_)
            refine c_nil (ln3 _ ⟨x19, (), h1, leH_kn ⟨⟨_, rfl, (.refl _)⟩, ⟨_, rfl, (.refl _)⟩, ⟨_, rfl, (.refl _)⟩, ⟨_, rfl, (.refl _)⟩, trivial⟩ ⟨⟨_, rfl, (.refl _)⟩, ⟨_, rfl, (.refl _)⟩, trivial⟩⟩)
        · intro hb; subst hb; replace h1 := cf h1
          refine c_exit (lx3 _ _ (bx2 _ ?_))
          obtain rfl := brk_e h1
          refine c_nil (jn1 _ ⟨(), (), rfl, leH_kn ⟨⟨_, rfl, (.refl _)⟩, trivial⟩ trivial⟩)
      · rintro _ _ rfl
        replace h0 := sel_l h0
        refine c_show ⟨kn [(4, boo false)], hk []⟩ ?_
        refine c_seq ?_
        refine c_reg ?_; intro K hK
        refine st rfl rfl rfl (yv_assign rfl rfl) ?_
        refine rg_nil (hK _ ?_)
        obtain rfl := nxt_e h0
        refine c_ret (hret _ _ _ (.tmp rfl .nil) (fun _ _ h => h) ?_)
        exact .refl _
def d_slices_Equal_int_int_L0 (a1 : List Int) (a2 : List Int) : Nat → Int → Option ((Unit) ⊕ (Bool))
  | 0, _ => none
  | n + 1, y0_1 =>
    bnd (decide (y0_1 < (a1.length : Int))) fun (x5 : Bool) =>
    cond x5 ((ix a1 y0_1).bind fun (x6 : Int) =>
    (ix a2 y0_1).bind fun (x7 : Int) =>
    bnd (decide (x6 ≠ x7)) fun (x8 : Bool) =>
    cond x8 (esc (some ((false : Bool)))) (bnd (w64 (y0_1 + 1)) fun (x10 : Int) =>
    d_slices_Equal_int_int_L0 a1 a2 n (x10 : Int))) (brk ())
def d_slices_Equal_int_int (n : Nat) (a1 : List Int) (a2 : List Int) : Option (Bool) :=
bnd (decide ((a1.length : Int) ≠ (a2.length : Int))) fun (x3 : Bool) =>
cond x3 (some ((false : Bool))) ((show Option ((Unit) ⊕ (Bool)) from
d_slices_Equal_int_int_L0 a1 a2 n (0 : Int)).bind <| sel <| fun (_ : Unit) =>
some ((true : Bool)))
theorem d_slices_Equal_int_int_c {n : Nat} {a1 : List Int} {a2 : List Int} {r : Bool} (h0 : d_slices_Equal_int_int n a1 a2 = some r) : PP Try.prog 56 [lst 1 fI a1, lst 1 fI a2] (fun y => y = boo r) := by
  unfold d_slices_Equal_int_int at h0
  refine pp_of_pc (R0 := fun y H => Cv (frzH H) y (boo r)) ?_ (fun y H hc => ⟨_, rfl, pvB r, hc⟩)
  refine pc_of' (c := _) Try.func56 rfl rfl ?_; intro Q hret hnorm
  refine c_seq ?_
  refine c_reg ?_; intro K hK
  refine st rfl rfl rfl (yv_assign rfl rfl) ?_
  refine rg_nil (hK _ ?_)
  refine c_seq ?_
  refine c_seq ?_
  refine c_reg ?_; intro K hK
  refine st rfl rfl rfl (yv_move rfl rfl) ?_
  refine st rfl rfl rfl (yv_len_sl rfl Try.underlying22 rfl (lst_len _)) ?_
  refine st rfl rfl rfl (yv_move rfl rfl) ?_
  refine st rfl rfl rfl (yv_len_sl rfl Try.underlying22 rfl (lst_len _)) ?_
  obtain ⟨x3, e3, h0⟩ := bnd_e h0
  refine st rfl rfl rfl (yv_to (y := boo x3) (yv_neq rfl rfl rfl) (congrArg boo e3)) ?_
  refine rg_nil (hK _ ?_)
  refine c_if (b := x3) rfl ?_ ?_
  · intro hb; subst hb; replace h0 := ct h0
    refine c_seq ?_
    refine c_reg ?_; intro K hK
    refine st rfl rfl rfl (yv_assign rfl rfl) ?_
    refine rg_nil (hK _ ?_)
    obtain rfl := nxt_e h0
    refine c_ret (hret _ _ _ (.tmp rfl .nil) (fun _ _ h => h) ?_)
    exact .refl _
  · intro hb; subst hb; replace h0 := cf h0
    refine c_skip ?_
    refine c_seq ?_
    refine c_seq ?_
    refine c_reg ?_; intro K hK
    refine st rfl rfl rfl (yv_move rfl rfl) ?_
    refine st rfl rfl rfl (yv_len_sl rfl Try.underlying22 rfl (lst_len _)) ?_
    refine st rfl rfl rfl (yv_move rfl rfl) ?_
    refine rg_nil (hK _ ?_)
    obtain ⟨j4, h1, h0⟩ := bind_e h0
    refine c_joinL (fun (a : Unit) (k : Unit) => ⟨kn [(4, boo false)], hk []⟩) (fun a => j4 = .inl a) ?_ ?_
    · intro Q1 jn1 jx1 jr1
      refine c_block ?_; intro Q2 bn2 bx2 br2 bo2
      refine c_loopD (fun (a : Int) (k : Unit) => ⟨kn [(0, lst 1 fI a1), (1, lst 1 fI a2), (4, boo false), (12, int (a1.length : Int)), (13, int a)], hk []⟩) (fun n (a : Int) => d_slices_Equal_int_int_L0 a1 a2 n a) (0 : Int) () h1 (fun _ => rfl)
        (leH_kn ⟨⟨_, rfl, (.refl _)⟩, ⟨_, rfl, (.refl _)⟩, ⟨_, rfl, (.refl _)⟩, ⟨_, rfl, (.refl _)⟩, ⟨_, rfl, (.refl _)⟩, trivial⟩ trivial) ?_
      rintro n y0_1 _ hm h1 Q3 ln3 lx3 lr3
      replace h1 : d_slices_Equal_int_int_L0 a1 a2 (n + 1) y0_1 = some _ := h1
      rw [d_slices_Equal_int_int_L0] at h1
      refine c_show ⟨kn [(0, lst 1 fI a1), (1, lst 1 fI a2), (4, boo false), (12, int (a1.length : Int)), (13, int y0_1)], hk []⟩ ?_
      refine c_seq ?_
      refine c_reg ?_; intro K hK
      obtain ⟨x5, e5, h1⟩ := bnd_e h1
      refine st rfl rfl rfl (yv_to (y := boo x5) (yv_lss rfl rfl rfl) (congrArg boo e5)) ?_
      refine rg_nil (hK _ ?_)
      refine c_seq ?_
      refine c_if (b := x5) rfl ?_ ?_
      · intro hb; subst hb; replace h1 := ct h1
        refine c_skip ?_
        refine c_seq ?_
        refine c_block ?_; intro Q4 bn4 bx4 br4 bo4
        refine c_seq ?_
        refine c_reg ?_; intro K hK
        refine st rfl rfl rfl (yv_move rfl rfl) ?_
        refine st rfl rfl rfl (yv_assign rfl rfl) ?_
        refine rg_nil (hK _ ?_)
        refine c_seq ?_
        refine c_drawE [0, 0, 3, 7, 0, 0, 48, 112, 255] (fun i => []) (fun i => []) (fun i => true) [0, 1, 2, 3, 4, 5, 6, 7, 8] mixed (by kernel_rfl) ?_; intro K hK
        refine de_pure rfl rfl rfl rfl (fun H hH => yv_move rfl rfl) ?_
        refine de_pure rfl rfl rfl rfl (fun H hH => yv_move rfl rfl) ?_
        obtain ⟨x6, e6, h1⟩ := bind_e h1
        refine de_pure rfl rfl rfl rfl (fun H hH => yv_ixT rfl Try.underlying22 sh3 rfl rfl e6) ?_
        refine de_pure rfl rfl rfl rfl (fun H hH => yv_load rfl sh3 rfl (.pp _) rfl) ?_
        refine de_pure rfl rfl rfl rfl (fun H hH => yv_move rfl rfl) ?_
        refine de_pure rfl rfl rfl rfl (fun H hH => yv_move rfl rfl) ?_
        obtain ⟨x7, e7, h1⟩ := bind_e h1
        refine de_pure rfl rfl rfl rfl (fun H hH => yv_ixT rfl Try.underlying22 sh3 rfl rfl e7) ?_
        refine de_pure rfl rfl rfl rfl (fun H hH => yv_load rfl sh3 rfl (.pp _) rfl) ?_
        obtain ⟨x8, e8, h1⟩ := bnd_e h1
        refine de_pure rfl rfl rfl rfl (fun H hH => yv_to (y := boo x8) (yv_neq rfl rfl rfl) (congrArg boo e8)) ?_
        refine de_nil (hK _ ?_)
        refine c_if (b := x8) rfl ?_ ?_
        · intro hb; subst hb; replace h1 := ct h1
          refine c_seq ?_
          refine c_reg ?_; intro K hK
          refine st rfl rfl rfl (yv_assign rfl rfl) ?_
          refine rg_nil (hK _ ?_)
          obtain ⟨c9, hX, hj⟩ := esc_e h1; subst hj; replace h0 := hX.trans (sel_r h0)
          obtain rfl := nxt_e h0
          refine c_ret (br4 _ (lr3 _ (br2 _ (jr1 _ (hret _ _ _ (.tmp rfl .nil) (fun _ _ h => h) ?_)))))
          exact .refl _
        · intro hb; subst hb; replace h1 := cf h1
          refine c_skip ?_
          refine c_nil (bn4 _ ?_)
          refine c_reg ?_; intro K hK
          obtain ⟨x10, e10, h1⟩ := bnd_e h1
          refine st rfl rfl rfl (yv_add rfl rfl rfl e10) ?_
          refine st rfl rfl rfl (yv_move rfl rfl) ?_
          refine rg_nil (hK _ ?_)
          refine c_nil (ln3 _ ⟨x10, (), h1, leH_kn ⟨⟨_, rfl, (.refl _)⟩, ⟨_, rfl, (.refl _)⟩, ⟨_, rfl, (.refl _)⟩, ⟨_, rfl, (.refl _)⟩, ⟨_, rfl, (.refl _)⟩, trivial⟩ trivial⟩)
      · intro hb; subst hb; replace h1 := cf h1
        refine c_exit (lx3 _ _ (bx2 _ ?_))
        obtain rfl := brk_e h1
        refine c_nil (jn1 _ ⟨(), (), rfl, leH_kn ⟨⟨_, rfl, (.refl _)⟩, trivial⟩ trivial⟩)
    · rintro _ _ rfl
      replace h0 := sel_l h0
      refine c_show ⟨kn [(4, boo false)], hk []⟩ ?_
      refine c_seq ?_
      refine c_reg ?_; intro K hK
      refine st rfl rfl rfl (yv_assign rfl rfl) ?_
      refine rg_nil (hK _ ?_)
      obtain rfl := nxt_e h0
      refine c_ret (hret _ _ _ (.tmp rfl .nil) (fun _ _ h => h) ?_)
      exact .refl _
def d_master_Same_L0 (a1 : GMaster) (a2 : GMaster) : Nat → Int → Option ((Unit) ⊕ ((Bool)))
  | 0, _ => none
  | n + 1, y0_1 =>
    bnd (decide (y0_1 < (a1.Methods.length : Int))) fun (x12 : Bool) =>
    cond x12 ((ix a1.Methods y0_1).bind fun (x13 : List Int) =>
    (ix a2.Methods y0_1).bind fun (x14 : List Int) =>
    (d_slices_Equal_int_int n x13 x14).bind fun (x15 : Bool) =>
    bnd (!x15) fun (x16 : Bool) =>
    cond x16 (esc (some (false : Bool))) (bnd (w64 (y0_1 + 1)) fun (x18 : Int) =>
    d_master_Same_L0 a1 a2 n (x18 : Int))) (brk ())
def d_master_Same_L1 (a1 : GMaster) (a2 : GMaster) : Nat → Int → Option ((Unit) ⊕ ((Bool)))
  | 0, _ => none
  | n + 1, y3_1 =>
    bnd (decide (y3_1 < (a1.Costs.length : Int))) fun (x22 : Bool) =>
    cond x22 ((ix a1.Costs y3_1).bind fun (x23 : List Int) =>
    (ix a2.Costs y3_1).bind fun (x24 : List Int) =>
    (d_slices_Equal_int_int n x23 x24).bind fun (x25 : Bool) =>
    bnd (!x25) fun (x26 : Bool) =>
    cond x26 (esc (some (false : Bool))) (bnd (w64 (y3_1 + 1)) fun (x28 : Int) =>
    d_master_Same_L1 a1 a2 n (x28 : Int))) (brk ())
def d_master_Same (n : Nat) (a1 : GMaster) (a2 : GMaster) : Option (Bool) :=
(show Option (Bool) from
bnd (decide (a1.Entities = a2.Entities)) fun (x6 : Bool) =>
cond x6 (bnd (decide (a1.Periods = a2.Periods)) fun (x7 : Bool) =>
cond x7 ((d_slices_Equal_int_int n a1.Weights a2.Weights).bind fun (x8 : Bool) =>
cond x8 ((show Option ((Bool)) from
bnd (decide ((a1.Methods.length : Int) ≠ (a2.Methods.length : Int))) fun (x10 : Bool) =>
cond x10 (some (false : Bool)) ((show Option ((Unit) ⊕ ((Bool))) from
d_master_Same_L0 a1 a2 n (0 : Int)).bind <| sel <| fun (_ : Unit) =>
some (true : Bool))).bind <| fun (y2_1 : Bool) =>
cond y2_1 ((show Option ((Bool)) from
bnd (decide ((a1.Costs.length : Int) ≠ (a2.Costs.length : Int))) fun (x20 : Bool) =>
cond x20 (some (false : Bool)) ((show Option ((Unit) ⊕ ((Bool))) from
d_master_Same_L1 a1 a2 n (0 : Int)).bind <| sel <| fun (_ : Unit) =>
some (true : Bool))).bind <| fun (y5_1 : Bool) =>
some (y5_1 : Bool)) (some (false : Bool))) (some (false : Bool))) (some (false : Bool))) (some (false : Bool))).bind <| fun (y6_1 : Bool) =>
some ((y6_1 : Bool))
theorem d_master_Same_c {n : Nat} {a1 : GMaster} {a2 : GMaster} {r : Bool} (h0 : d_master_Same n a1 a2 = some r) : PP Try.prog 32 [.agg (GMaster.av a1), .agg (GMaster.av a2)] (fun y => y = boo r) := by
  unfold d_master_Same at h0
  refine pp_of_pc (R0 := fun y H => Cv (frzH H) y (boo r)) ?_ (fun y H hc => ⟨_, rfl, pvB r, hc⟩)
  refine pc_of' (c := _) Try.func32 rfl rfl ?_; intro Q hret hnorm
  refine c_seq ?_
  refine c_reg ?_; intro K hK
  refine se rfl rfl rfl (yl_box 1 .any rfl rfl rfl) ?_; rintro _ _ ⟨v3, -, rfl, rfl⟩
  refine se rfl rfl rfl (yl_box 2 .any rfl rfl rfl) ?_; rintro _ _ ⟨v4, -, rfl, rfl⟩
  refine st rfl rfl rfl (yv_assign rfl rfl) ?_
  refine rg_nil (hK _ ?_)
  refine c_seq ?_
  obtain ⟨j5, h1, h0⟩ := bind_e h0
  refine c_regL (fun (a : Bool) (k : Unit) => ⟨kn [(4, boo a)], hk []⟩) (fun a => a = j5) ?_ ?_
  · intro K hK
    refine st rfl rfl rfl (yv_fieldAddr rfl fo43_0 rfl (.pt rfl rfl rfl) (.pt _ _ _ _ _)) ?_
    refine st rfl rfl rfl (yv_load rfl sh3 rfl (.pt rfl rfl rfl) rfl) ?_
    refine st rfl rfl rfl (yv_fieldAddr rfl fo43_0 rfl (.pt rfl rfl rfl) (.pt _ _ _ _ _)) ?_
    refine st rfl rfl rfl (yv_load rfl sh3 rfl (.pt rfl rfl rfl) rfl) ?_
    obtain ⟨x6, e6, h1⟩ := bnd_e h1
    refine st rfl rfl rfl (yv_to (y := boo x6) (yv_eql rfl rfl rfl) (congrArg boo e6)) ?_
    refine st rfl rfl rfl (yv_move rfl rfl) ?_
    refine scases 10 rfl ?_ ?_
    · intro hb; subst hb; replace h1 := ct h1
      refine st rfl rfl rfl (yv_fieldAddr rfl fo43_1 rfl (.pt rfl rfl rfl) (.pt _ _ _ _ _)) ?_
      refine st rfl rfl rfl (yv_load rfl sh3 rfl (.pt rfl rfl rfl) rfl) ?_
      refine st rfl rfl rfl (yv_fieldAddr rfl fo43_1 rfl (.pt rfl rfl rfl) (.pt _ _ _ _ _)) ?_
      refine st rfl rfl rfl (yv_load rfl sh3 rfl (.pt rfl rfl rfl) rfl) ?_
      obtain ⟨x7, e7, h1⟩ := bnd_e h1
      refine st rfl rfl rfl (yv_to (y := boo x7) (yv_eql rfl rfl rfl) (congrArg boo e7)) ?_
      refine st rfl rfl rfl (yv_pick rfl rfl (fun _ => rfl) (fun _ => rfl) rfl) ?_
      refine st rfl rfl rfl (yv_move rfl rfl) ?_
      refine scases 17 rfl ?_ ?_
      · intro hb; subst hb; replace h1 := ct h1
        refine st rfl rfl rfl (yv_fieldAddr rfl fo43_2 rfl (.pt rfl rfl rfl) (.pt _ _ _ _ _)) ?_
        refine st rfl rfl rfl (yv_load rfl sh22 rfl (.pt rfl rfl rfl) rfl) ?_
        refine st rfl rfl rfl (yv_fieldAddr rfl fo43_2 rfl (.pt rfl rfl rfl) (.pt _ _ _ _ _)) ?_
        refine st rfl rfl rfl (yv_load rfl sh22 rfl (.pt rfl rfl rfl) rfl) ?_
        obtain ⟨x8, e8, h1⟩ := bind_e h1
        refine st rfl rfl rfl (yv_callP rfl rfl (.cons rfl (.cons rfl .nil)) cal56 (CvL.refl _) (d_slices_Equal_int_int_c e8)) ?_
        refine st rfl rfl rfl (yv_pick rfl rfl (fun _ => rfl) (fun _ => rfl) rfl) ?_
        refine st rfl rfl rfl (yv_move rfl rfl) ?_
        refine scases 24 rfl ?_ ?_
        · intro hb; subst hb; replace h1 := ct h1
          refine st rfl rfl rfl (yv_fieldAddr rfl fo43_3 rfl (.pt rfl rfl rfl) (.pt _ _ _ _ _)) ?_
          refine st rfl rfl rfl (yv_load rfl sh41 rfl (.pt rfl rfl rfl) rfl) ?_
          refine st rfl rfl rfl (yv_fieldAddr rfl fo43_3 rfl (.pt rfl rfl rfl) (.pt _ _ _ _ _)) ?_
          refine st rfl rfl rfl (yv_load rfl sh41 rfl (.pt rfl rfl rfl) rfl) ?_
          obtain ⟨j9, h2, h1⟩ := bind_e h1
          refine se (Out := fun y H' => (∃ (a : Bool) (k : Unit), a = j9 ∧ y = boo a ∧ H' = hk [(1, ⟨43, 5, true, true, v3, [[int a1.Entities, int a1.Periods, lst 1 fI a1.Weights, lst 1 (fL 1 fI) a1.Methods, lst 1 (fL 1 fI) a1.Costs]]⟩), (2, ⟨43, 5, true, true, v4, [[int a2.Entities, int a2.Periods, lst 1 fI a2.Weights, lst 1 (fL 1 fI) a2.Methods, lst 1 (fL 1 fI) a2.Costs]]⟩)])) rfl rfl rfl (yl_call rfl rfl (.cons rfl (.cons rfl (.cons rfl .nil))) cal57 ?_) ?_
          · refine pc_of' (c := _) Try.func57 rfl rfl ?_; intro Q hret hnorm
            refine c_seq ?_
            refine c_reg ?_; intro K hK
            refine st rfl rfl rfl (yv_assign rfl rfl) ?_
            refine rg_nil (hK _ ?_)
            refine c_seq ?_
            refine c_seq ?_
            refine c_reg ?_; intro K hK
            refine st rfl rfl rfl (yv_move rfl rfl) ?_
            refine st rfl rfl rfl (yv_len_sl rfl Try.underlying41 rfl (lst_len _)) ?_
            refine st rfl rfl rfl (yv_move rfl rfl) ?_
            refine st rfl rfl rfl (yv_len_sl rfl Try.underlying41 rfl (lst_len _)) ?_
            obtain ⟨x10, e10, h2⟩ := bnd_e h2
            refine st rfl rfl rfl (yv_to (y := boo x10) (yv_neq rfl rfl rfl) (congrArg boo e10)) ?_
            refine rg_nil (hK _ ?_)
            refine c_if (b := x10) rfl ?_ ?_
            · intro hb; subst hb; replace h2 := ct h2
              refine c_seq ?_
              refine c_reg ?_; intro K hK
              refine st rfl rfl rfl (yv_assign rfl rfl) ?_
              refine rg_nil (hK _ ?_)
              obtain rfl := nxt_e h2
              refine c_ret (hret _ _ (hk [(1, ⟨43, 5, true, true, v3, [[int a1.Entities, int a1.Periods, lst 1 fI a1.Weights, lst 1 (fL 1 fI) a1.Methods, lst 1 (fL 1 fI) a1.Costs]]⟩), (2, ⟨43, 5, true, true, v4, [[int a2.Entities, int a2.Periods, lst 1 fI a2.Weights, lst 1 (fL 1 fI) a2.Methods, lst 1 (fL 1 fI) a2.Costs]]⟩)]) (.tmp rfl .nil) (HK.le ⟨rfl, rfl, trivial⟩) ?_)
              exact ⟨false, (), rfl, rfl, rfl⟩
            · intro hb; subst hb; replace h2 := cf h2
              refine c_skip ?_
              refine c_seq ?_
              refine c_seq ?_
              refine c_reg ?_; intro K hK
              refine st rfl rfl rfl (yv_move rfl rfl) ?_
              refine st rfl rfl rfl (yv_len_sl rfl Try.underlying41 rfl (lst_len _)) ?_
              refine st rfl rfl rfl (yv_move rfl rfl) ?_
              refine rg_nil (hK _ ?_)
              obtain ⟨j11, h3, h2⟩ := bind_e h2
              refine c_joinL (fun (a : Unit) (k : Unit) => ⟨kn [(6, boo false)], hk [(1, ⟨43, 5, true, true, v3, [[int a1.Entities, int a1.Periods, lst 1 fI a1.Weights, lst 1 (fL 1 fI) a1.Methods, lst 1 (fL 1 fI) a1.Costs]]⟩), (2, ⟨43, 5, true, true, v4, [[int a2.Entities, int a2.Periods, lst 1 fI a2.Weights, lst 1 (fL 1 fI) a2.Methods, lst 1 (fL 1 fI) a2.Costs]]⟩)]⟩) (fun a => j11 = .inl a) ?_ ?_
              · intro Q1 jn1 jx1 jr1
                refine c_block ?_; intro Q2 bn2 bx2 br2 bo2
                refine c_loopD (fun (a : Int) (k : Unit) => ⟨kn [(1, lst 1 (fL 1 fI) a2.Methods), (2, .fn (.func 56) [] []), (6, boo false), (15, lst 1 (fL 1 fI) a1.Methods), (16, int (a1.Methods.length : Int)), (17, int a)], hk [(1, ⟨43, 5, true, true, v3, [[int a1.Entities, int a1.Periods, lst 1 fI a1.Weights, lst 1 (fL 1 fI) a1.Methods, lst 1 (fL 1 fI) a1.Costs]]⟩), (2, ⟨43, 5, true, true, v4, [[int a2.Entities, int a2.Periods, lst 1 fI a2.Weights, lst 1 (fL 1 fI) a2.Methods, lst 1 (fL 1 fI) a2.Costs]]⟩)]⟩) (fun n (a : Int) => d_master_Same_L0 a1 a2 n a) (0 : Int) () h3 (fun _ => rfl)
                  (leH_kn ⟨⟨_, rfl, (.refl _)⟩, ⟨_, rfl, (.refl _)⟩, ⟨_, rfl, (.refl _)⟩, ⟨_, rfl, (.refl _)⟩, ⟨_, rfl, (.refl _)⟩, ⟨_, rfl, (.refl _)⟩, trivial⟩ ⟨⟨_, rfl, (.refl _)⟩, ⟨_, rfl, (.refl _)⟩, trivial⟩) ?_
                rintro n y0_1 _ hm h3 Q3 ln3 lx3 lr3
                replace h3 : d_master_Same_L0 a1 a2 (n + 1) y0_1 = some _ := h3
                rw [d_master_Same_L0] at h3
                refine c_show ⟨kn [(1, lst 1 (fL 1 fI) a2.Methods), (2, .fn (.func 56) [] []), (6, boo false), (15, lst 1 (fL 1 fI) a1.Methods), (16, int (a1.Methods.length : Int)), (17, int y0_1)], hk [(1, ⟨43, 5, true, true, v3, [[int a1.Entities, int a1.Periods, lst 1 fI a1.Weights, lst 1 (fL 1 fI) a1.Methods, lst 1 (fL 1 fI) a1.Costs]]⟩), (2, ⟨43, 5, true, true, v4, [[int a2.Entities, int a2.Periods, lst 1 fI a2.Weights, lst 1 (fL 1 fI) a2.Methods, lst 1 (fL 1 fI) a2.Costs]]⟩)]⟩ ?_
                refine c_seq ?_
                refine c_reg ?_; intro K hK
                obtain ⟨x12, e12, h3⟩ := bnd_e h3
                refine st rfl rfl rfl (yv_to (y := boo x12) (yv_lss rfl rfl rfl) (congrArg boo e12)) ?_
                refine rg_nil (hK _ ?_)
                refine c_seq ?_
                refine c_if (b := x12) rfl ?_ ?_
                · intro hb; subst hb; replace h3 := ct h3
                  refine c_skip ?_
                  refine c_seq ?_
                  refine c_block ?_; intro Q4 bn4 bx4 br4 bo4
                  refine c_seq ?_
                  refine c_reg ?_; intro K hK
                  refine st rfl rfl rfl (yv_move rfl rfl) ?_
                  obtain ⟨x13, e13, h3⟩ := bind_e h3
                  refine st rfl rfl rfl (yv_ixT rfl Try.underlying41 sh22 rfl rfl e13) ?_
                  refine st rfl rfl rfl (yv_load rfl sh22 rfl (.pp _) rfl) ?_
                  refine st rfl rfl rfl (yv_assign rfl rfl) ?_
                  refine st rfl rfl rfl (yv_assign rfl rfl) ?_
                  refine rg_nil (hK _ ?_)
                  refine c_seq ?_
                  refine c_reg ?_; intro K hK
                  refine st rfl rfl rfl (yv_move rfl rfl) ?_
                  refine st rfl rfl rfl (yv_move rfl rfl) ?_
                  obtain ⟨x14, e14, h3⟩ := bind_e h3
                  refine st rfl rfl rfl (yv_ixT rfl Try.underlying41 sh22 rfl rfl e14) ?_
                  refine st rfl rfl rfl (yv_load rfl sh22 rfl (.pp _) rfl) ?_
                  refine st rfl rfl rfl (yv_assign rfl rfl) ?_
                  refine rg_nil (hK _ ?_)
                  refine c_seq ?_
                  refine c_reg ?_; intro K hK
                  refine st rfl rfl rfl (yv_move rfl rfl) ?_
                  refine st rfl rfl rfl (yv_move rfl rfl) ?_
                  refine st rfl rfl rfl (yv_move rfl rfl) ?_
                  obtain ⟨x15, e15, h3⟩ := bind_e h3
                  refine st rfl rfl rfl (yv_callP rfl rfl (.cons rfl (.cons rfl .nil)) cal56 (CvL.refl _) (d_slices_Equal_int_int_c e15)) ?_
                  obtain ⟨x16, e16, h3⟩ := bnd_e h3
                  refine st rfl rfl rfl (yv_not rfl rfl e16) ?_
                  refine rg_nil (hK _ ?_)
                  refine c_if (b := x16) rfl ?_ ?_
                  · intro hb; subst hb; replace h3 := ct h3
                    refine c_seq ?_
                    refine c_reg ?_; intro K hK
                    refine st rfl rfl rfl (yv_assign rfl rfl) ?_
                    refine rg_nil (hK _ ?_)
                    obtain ⟨c17, hX, hj⟩ := esc_e h3; subst hj; replace h2 := hX.trans (sel_r h2)
                    obtain rfl := nxt_e h2
                    refine c_ret (br4 _ (lr3 _ (br2 _ (jr1 _ (hret _ _ (hk [(1, ⟨43, 5, true, true, v3, [[int a1.Entities, int a1.Periods, lst 1 fI a1.Weights, lst 1 (fL 1 fI) a1.Methods, lst 1 (fL 1 fI) a1.Costs]]⟩), (2, ⟨43, 5, true, true, v4, [[int a2.Entities, int a2.Periods, lst 1 fI a2.Weights, lst 1 (fL 1 fI) a2.Methods, lst 1 (fL 1 fI) a2.Costs]]⟩)]) (.tmp rfl .nil) (HK.le ⟨rfl, rfl, trivial⟩) ?_)))))
                    exact ⟨false, (), rfl, rfl, rfl⟩
                  · intro hb; subst hb; replace h3 := cf h3
                    refine c_skip ?_
                    refine c_nil (bn4 _ ?_)
                    refine c_reg ?_; intro K hK
                    obtain ⟨x18, e18, h3⟩ := bnd_e h3
                    refine st rfl rfl rfl (yv_add rfl rfl rfl e18) ?_
                    refine st rfl rfl rfl (yv_move rfl rfl) ?_
                    refine rg_nil (hK _ ?_)
                    refine c_nil (ln3 _ ⟨x18, (), h3, leH_kn ⟨⟨_, rfl, (.refl _)⟩, ⟨_, rfl, (.refl _)⟩, ⟨_, rfl, (.refl _)⟩, ⟨_, rfl, (.refl _)⟩, ⟨_, rfl, (.refl _)⟩, ⟨_, rfl, (.refl _)⟩, trivial⟩ ⟨⟨_, rfl, (.refl _)⟩, ⟨_, rfl, (.refl _)⟩, trivial⟩⟩)
                · intro hb; subst hb; replace h3 := cf h3
                  refine c_exit (lx3 _ _ (bx2 _ ?_))
                  obtain rfl := brk_e h3
                  refine c_nil (jn1 _ ⟨(), (), rfl, leH_kn ⟨⟨_, rfl, (.refl _)⟩, trivial⟩ ⟨⟨_, rfl, (.refl _)⟩, ⟨_, rfl, (.refl _)⟩, trivial⟩⟩)
              · rintro _ _ rfl
                replace h2 := sel_l h2
                refine c_show ⟨kn [(6, boo false)], hk [(1, ⟨43, 5, true, true, v3, [[int a1.Entities, int a1.Periods, lst 1 fI a1.Weights, lst 1 (fL 1 fI) a1.Methods, lst 1 (fL 1 fI) a1.Costs]]⟩), (2, ⟨43, 5, true, true, v4, [[int a2.Entities, int a2.Periods, lst 1 fI a2.Weights, lst 1 (fL 1 fI) a2.Methods, lst 1 (fL 1 fI) a2.Costs]]⟩)]⟩ ?_
                refine c_seq ?_
                refine c_reg ?_; intro K hK
                refine st rfl rfl rfl (yv_assign rfl rfl) ?_
                refine rg_nil (hK _ ?_)
                obtain rfl := nxt_e h2
                refine c_ret (hret _ _ (hk [(1, ⟨43, 5, true, true, v3, [[int a1.Entities, int a1.Periods, lst 1 fI a1.Weights, lst 1 (fL 1 fI) a1.Methods, lst 1 (fL 1 fI) a1.Costs]]⟩), (2, ⟨43, 5, true, true, v4, [[int a2.Entities, int a2.Periods, lst 1 fI a2.Weights, lst 1 (fL 1 fI) a2.Methods, lst 1 (fL 1 fI) a2.Costs]]⟩)]) (.tmp rfl .nil) (HK.le ⟨rfl, rfl, trivial⟩) ?_)
                exact ⟨true, (), rfl, rfl, rfl⟩
          · rintro y _ ⟨y2_1, _, rfl, hc, rfl⟩
            subst hc
            refine st rfl rfl rfl (yv_pick rfl rfl (fun _ => rfl) (fun _ => rfl) rfl) ?_
            refine st rfl rfl rfl (yv_move rfl rfl) ?_
            refine scases 31 rfl ?_ ?_
            · intro hb; subst hb; replace h1 := ct h1
              refine st rfl rfl rfl (yv_fieldAddr rfl fo43_4 rfl (.pt rfl rfl rfl) (.pt _ _ _ _ _)) ?_
              refine st rfl rfl rfl (yv_load rfl sh41 rfl (.pt rfl rfl rfl) rfl) ?_
              refine st rfl rfl rfl (yv_fieldAddr rfl fo43_4 rfl (.pt rfl rfl rfl) (.pt _ _ _ _ _)) ?_
              refine st rfl rfl rfl (yv_load rfl sh41 rfl (.pt rfl rfl rfl) rfl) ?_
              obtain ⟨j19, h2, h1⟩ := bind_e h1
              refine se (Out := fun y H' => (∃ (a : Bool) (k : Unit), a = j19 ∧ y = boo a ∧ H' = hk [(1, ⟨43, 5, true, true, v3, [[int a1.Entities, int a1.Periods, lst 1 fI a1.Weights, lst 1 (fL 1 fI) a1.Methods, lst 1 (fL 1 fI) a1.Costs]]⟩), (2, ⟨43, 5, true, true, v4, [[int a2.Entities, int a2.Periods, lst 1 fI a2.Weights, lst 1 (fL 1 fI) a2.Methods, lst 1 (fL 1 fI) a2.Costs]]⟩)])) rfl rfl rfl (yl_call rfl rfl (.cons rfl (.cons rfl (.cons rfl .nil))) cal57 ?_) ?_
              · refine pc_of' (c := _) Try.func57 rfl rfl ?_; intro Q hret hnorm
                refine c_seq ?_
                refine c_reg ?_; intro K hK
                refine st rfl rfl rfl (yv_assign rfl rfl) ?_
                refine rg_nil (hK _ ?_)
                refine c_seq ?_
                refine c_seq ?_
                refine c_reg ?_; intro K hK
                refine st rfl rfl rfl (yv_move rfl rfl) ?_
                refine st rfl rfl rfl (yv_len_sl rfl Try.underlying41 rfl (lst_len _)) ?_
                refine st rfl rfl rfl (yv_move rfl rfl) ?_
                refine st rfl rfl rfl (yv_len_sl rfl Try.underlying41 rfl (lst_len _)) ?_
                obtain ⟨x20, e20, h2⟩ := bnd_e h2
                refine st rfl rfl rfl (yv_to (y := boo x20) (yv_neq rfl rfl rfl) (congrArg boo e20)) ?_
                refine rg_nil (hK _ ?_)
                refine c_if (b := x20) rfl ?_ ?_
                · intro hb; subst hb; replace h2 := ct h2
                  refine c_seq ?_
                  refine c_reg ?_; intro K hK
                  refine st rfl rfl rfl (yv_assign rfl rfl) ?_
                  refine rg_nil (hK _ ?_)
                  obtain rfl := nxt_e h2
                  refine c_ret (hret _ _ (hk [(1, ⟨43, 5, true, true, v3, [[int a1.Entities, int a1.Periods, lst 1 fI a1.Weights, lst 1 (fL 1 fI) a1.Methods, lst 1 (fL 1 fI) a1.Costs]]⟩), (2, ⟨43, 5, true, true, v4, [[int a2.Entities, int a2.Periods, lst 1 fI a2.Weights, lst 1 (fL 1 fI) a2.Methods, lst 1 (fL 1 fI) a2.Costs]]⟩)]) (.tmp rfl .nil) (HK.le ⟨rfl, rfl, trivial⟩) ?_)
                  exact ⟨false, (), rfl, rfl, rfl⟩
                · intro hb; subst hb; replace h2 := cf h2
                  refine c_skip ?_
                  refine c_seq ?_
                  refine c_seq ?_
                  refine c_reg ?_; intro K hK
                  refine st rfl rfl rfl (yv_move rfl rfl) ?_
                  refine st rfl rfl rfl (yv_len_sl rfl Try.underlying41 rfl (lst_len _)) ?_
                  refine st rfl rfl rfl (yv_move rfl rfl) ?_
                  refine rg_nil (hK _ ?_)
                  obtain ⟨j21, h3, h2⟩ := bind_e h2
                  refine c_joinL (fun (a : Unit) (k : Unit) => ⟨kn [(6, boo false)], hk [(1, ⟨43, 5, true, true, v3, [[int a1.Entities, int a1.Periods, lst 1 fI a1.Weights, lst 1 (fL 1 fI) a1.Methods, lst 1 (fL 1 fI) a1.Costs]]⟩), (2, ⟨43, 5, true, true, v4, [[int a2.Entities, int a2.Periods, lst 1 fI a2.Weights, lst 1 (fL 1 fI) a2.Methods, lst 1 (fL 1 fI) a2.Costs]]⟩)]⟩) (fun a => j21 = .inl a) ?_ ?_
                  · intro Q1 jn1 jx1 jr1
                    refine c_block ?_; intro Q2 bn2 bx2 br2 bo2
                    refine c_loopD (fun (a : Int) (k : Unit) => ⟨kn [(1, lst 1 (fL 1 fI) a2.Costs), (2, .fn (.func 56) [] []), (6, boo false), (15, lst 1 (fL 1 fI) a1.Costs), (16, int (a1.Costs.length : Int)), (17, int a)], hk [(1, ⟨43, 5, true, true, v3, [[int a1.Entities, int a1.Periods, lst 1 fI a1.Weights, lst 1 (fL 1 fI) a1.Methods, lst 1 (fL 1 fI) a1.Costs]]⟩), (2, ⟨43, 5, true, true, v4, [[int a2.Entities, int a2.Periods, lst 1 fI a2.Weights, lst 1 (fL 1 fI) a2.Methods, lst 1 (fL 1 fI) a2.Costs]]⟩)]⟩) (fun n (a : Int) => d_master_Same_L1 a1 a2 n a) (0 : Int) () h3 (fun _ => rfl)
                      (leH_kn ⟨⟨_, rfl, (.refl _)⟩, ⟨_, rfl, (.refl _)⟩, ⟨_, rfl, (.refl _)⟩, ⟨_, rfl, (.refl _)⟩, ⟨_, rfl, (.refl _)⟩, ⟨_, rfl, (.refl _)⟩, trivial⟩ ⟨⟨_, rfl, (.refl _)⟩, ⟨_, rfl, (.refl _)⟩, trivial⟩) ?_
                    rintro n y3_1 _ hm h3 Q3 ln3 lx3 lr3
                    replace h3 : d_master_Same_L1 a1 a2 (n + 1) y3_1 = some _ := h3
                    rw [d_master_Same_L1] at h3
                    refine c_show ⟨kn [(1, lst 1 (fL 1 fI) a2.Costs), (2, .fn (.func 56) [] []), (6, boo false), (15, lst 1 (fL 1 fI) a1.Costs), (16, int (a1.Costs.length : Int)), (17, int y3_1)], hk [(1, ⟨43, 5, true, true, v3, [[int a1.Entities, int a1.Periods, lst 1 fI a1.Weights, lst 1 (fL 1 fI) a1.Methods, lst 1 (fL 1 fI) a1.Costs]]⟩), (2, ⟨43, 5, true, true, v4, [[int a2.Entities, int a2.Periods, lst 1 fI a2.Weights, lst 1 (fL 1 fI) a2.Methods, lst 1 (fL 1 fI) a2.Costs]]⟩)]⟩ ?_
                    refine c_seq ?_
                    refine c_reg ?_; intro K hK
                    obtain ⟨x22, e22, h3⟩ := bnd_e h3
                    refine st rfl rfl rfl (yv_to (y := boo x22) (yv_lss rfl rfl rfl) (congrArg boo e22)) ?_
                    refine rg_nil (hK _ ?_)
                    refine c_seq ?_
                    refine c_if (b := x22) rfl ?_ ?_
                    · intro hb; subst hb; replace h3 := ct h3
                      refine c_skip ?_
                      refine c_seq ?_
                      refine c_block ?_; intro Q4 bn4 bx4 br4 bo4
                      refine c_seq ?_
                      refine c_reg ?_; intro K hK
                      refine st rfl rfl rfl (yv_move rfl rfl) ?_
                      obtain ⟨x23, e23, h3⟩ := bind_e h3
                      refine st rfl rfl rfl (yv_ixT rfl Try.underlying41 sh22 rfl rfl e23) ?_
                      refine st rfl rfl rfl (yv_load rfl sh22 rfl (.pp _) rfl) ?_
                      refine st rfl rfl rfl (yv_assign rfl rfl) ?_
                      refine st rfl rfl rfl (yv_assign rfl rfl) ?_
                      refine rg_nil (hK _ ?_)
                      refine c_seq ?_
                      refine c_reg ?_; intro K hK
                      refine st rfl rfl rfl (yv_move rfl rfl) ?_
                      refine st rfl rfl rfl (yv_move rfl rfl) ?_
                      obtain ⟨x24, e24, h3⟩ := bind_e h3
                      refine st rfl rfl rfl (yv_ixT rfl Try.underlying41 sh22 rfl rfl e24) ?_
                      refine st rfl rfl rfl (yv_load rfl sh22 rfl (.pp _) rfl) ?_
                      refine st rfl rfl rfl (yv_assign rfl rfl) ?_
                      refine rg_nil (hK _ ?_)
                      refine c_seq ?_
                      refine c_reg ?_; intro K hK
                      refine st rfl rfl rfl (yv_move rfl rfl) ?_
                      refine st rfl rfl rfl (yv_move rfl rfl) ?_
                      refine st rfl rfl rfl (yv_move rfl rfl) ?_
                      obtain ⟨x25, e25, h3⟩ := bind_e h3
                      refine st rfl rfl rfl (yv_callP rfl rfl (.cons rfl (.cons rfl .nil)) cal56 (CvL.refl _) (d_slices_Equal_int_int_c e25)) ?_
                      obtain ⟨x26, e26, h3⟩ := bnd_e h3
                      refine st rfl rfl rfl (yv_not rfl rfl e26) ?_
                      refine rg_nil (hK _ ?_)
                      refine c_if (b := x26) rfl ?_ ?_
                      · intro hb; subst hb; replace h3 := ct h3
                        refine c_seq ?_
                        refine c_reg ?_; intro K hK
                        refine st rfl rfl rfl (yv_assign rfl rfl) ?_
                        refine rg_nil (hK _ ?_)
                        obtain ⟨c27, hX, hj⟩ := esc_e h3; subst hj; replace h2 := hX.trans (sel_r h2)
                        obtain rfl := nxt_e h2
                        refine c_ret (br4 _ (lr3 _ (br2 _ (jr1 _ (hret _ _ (hk [(1, ⟨43, 5, true, true, v3, [[int a1.Entities, int a1.Periods, lst 1 fI a1.Weights, lst 1 (fL 1 fI) a1.Methods, lst 1 (fL 1 fI) a1.Costs]]⟩), (2, ⟨43, 5, true, true, v4, [[int a2.Entities, int a2.Periods, lst 1 fI a2.Weights, lst 1 (fL 1 fI) a2.Methods, lst 1 (fL 1 fI) a2.Costs]]⟩)]) (.tmp rfl .nil) (HK.le ⟨rfl, rfl, trivial⟩) ?_)))))
                        exact ⟨false, (), rfl, rfl, rfl⟩
                      · intro hb; subst hb; replace h3 := cf h3
                        refine c_skip ?_
                        refine c_nil (bn4 _ ?_)
                        refine c_reg ?_; intro K hK
                        obtain ⟨x28, e28, h3⟩ := bnd_e h3
                        refine st rfl rfl rfl (yv_add rfl rfl rfl e28) ?_
                        refine st rfl rfl rfl (yv_move rfl rfl) ?_
                        refine rg_nil (hK _ ?_)
                        refine c_nil (ln3 _ ⟨x28, (), h3, leH_kn ⟨⟨_, rfl, (.refl _)⟩, ⟨_, rfl, (.refl _)⟩, ⟨_, rfl, (.refl _)⟩, ⟨_, rfl, (.refl _)⟩, ⟨_, rfl, (.refl _)⟩, ⟨_, rfl, (.refl _)⟩, trivial⟩ ⟨⟨_, rfl, (.refl _)⟩, ⟨_, rfl, (.refl _)⟩, trivial⟩⟩)
                    · intro hb; subst hb; replace h3 := cf h3
                      refine c_exit (lx3 _ _ (bx2 _ ?_))
                      obtain rfl := brk_e h3
                      refine c_nil (jn1 _ ⟨(), (), rfl, leH_kn ⟨⟨_, rfl, (.refl _)⟩, trivial⟩ ⟨⟨_, rfl, (.refl _)⟩, ⟨_, rfl, (.refl _)⟩, trivial⟩⟩)
                  · rintro _ _ rfl
                    replace h2 := sel_l h2
                    refine c_show ⟨kn [(6, boo false)], hk [(1, ⟨43, 5, true, true, v3, [[int a1.Entities, int a1.Periods, lst 1 fI a1.Weights, lst 1 (fL 1 fI) a1.Methods, lst 1 (fL 1 fI) a1.Costs]]⟩), (2, ⟨43, 5, true, true, v4, [[int a2.Entities, int a2.Periods, lst 1 fI a2.Weights, lst 1 (fL 1 fI) a2.Methods, lst 1 (fL 1 fI) a2.Costs]]⟩)]⟩ ?_
                    refine c_seq ?_
                    refine c_reg ?_; intro K hK
                    refine st rfl rfl rfl (yv_assign rfl rfl) ?_
                    refine rg_nil (hK _ ?_)
                    obtain rfl := nxt_e h2
                    refine c_ret (hret _ _ (hk [(1, ⟨43, 5, true, true, v3, [[int a1.Entities, int a1.Periods, lst 1 fI a1.Weights, lst 1 (fL 1 fI) a1.Methods, lst 1 (fL 1 fI) a1.Costs]]⟩), (2, ⟨43, 5, true, true, v4, [[int a2.Entities, int a2.Periods, lst 1 fI a2.Weights, lst 1 (fL 1 fI) a2.Methods, lst 1 (fL 1 fI) a2.Costs]]⟩)]) (.tmp rfl .nil) (HK.le ⟨rfl, rfl, trivial⟩) ?_)
                    exact ⟨true, (), rfl, rfl, rfl⟩
              · rintro y _ ⟨y5_1, _, rfl, hc, rfl⟩
                subst hc
                refine st rfl rfl rfl (yv_pick rfl rfl (fun _ => rfl) (fun _ => rfl) rfl) ?_
                refine st rfl rfl rfl (yv_assign rfl rfl) ?_
                obtain rfl := nxt_e h1
                refine rg_nil (hK _ ⟨y5_1, (), rfl, leH_kn ⟨⟨_, rfl, (.refl _)⟩, trivial⟩ trivial⟩)
            · intro hb; subst hb; replace h1 := cf h1
              refine sk rfl rfl rfl ?_
              refine sk rfl rfl rfl ?_
              refine sk rfl rfl rfl ?_
              refine sk rfl rfl rfl ?_
              refine sk rfl rfl rfl ?_
              refine st rfl rfl rfl (yv_pick rfl rfl (fun _ => rfl) (fun _ => rfl) rfl) ?_
              refine st rfl rfl rfl (yv_assign rfl rfl) ?_
              obtain rfl := nxt_e h1
              refine rg_nil (hK _ ⟨false, (), rfl, leH_kn ⟨⟨_, rfl, (.refl _)⟩, trivial⟩ trivial⟩)
        · intro hb; subst hb; replace h1 := cf h1
          refine sk rfl rfl rfl ?_
          refine sk rfl rfl rfl ?_
          refine sk rfl rfl rfl ?_
          refine sk rfl rfl rfl ?_
          refine sk rfl rfl rfl ?_
          refine st rfl rfl rfl (yv_pick rfl rfl (fun _ => rfl) (fun _ => rfl) rfl) ?_
          refine st rfl rfl rfl (yv_move rfl rfl) ?_
          refine sk rfl rfl rfl ?_
          refine sk rfl rfl rfl ?_
          refine sk rfl rfl rfl ?_
          refine sk rfl rfl rfl ?_
          refine sk rfl rfl rfl ?_
          refine st rfl rfl rfl (yv_pick rfl rfl (fun _ => rfl) (fun _ => rfl) rfl) ?_
          refine st rfl rfl rfl (yv_assign rfl rfl) ?_
          obtain rfl := nxt_e h1
          refine rg_nil (hK _ ⟨false, (), rfl, leH_kn ⟨⟨_, rfl, (.refl _)⟩, trivial⟩ trivial⟩)
      · intro hb; subst hb; replace h1 := cf h1
        refine sk rfl rfl rfl ?_
        refine sk rfl rfl rfl ?_
        refine sk rfl rfl rfl ?_
        refine sk rfl rfl rfl ?_
        refine sk rfl rfl rfl ?_
        refine st rfl rfl rfl (yv_pick rfl rfl (fun _ => rfl) (fun _ => rfl) rfl) ?_
        refine st rfl rfl rfl (yv_move rfl rfl) ?_
        refine sk rfl rfl rfl ?_
        refine sk rfl rfl rfl ?_
        refine sk rfl rfl rfl ?_
        refine sk rfl rfl rfl ?_
        refine sk rfl rfl rfl ?_
        refine st rfl rfl rfl (yv_pick rfl rfl (fun _ => rfl) (fun _ => rfl) rfl) ?_
        refine st rfl rfl rfl (yv_move rfl rfl) ?_
        refine sk rfl rfl rfl ?_
        refine sk rfl rfl rfl ?_
        refine sk rfl rfl rfl ?_
        refine sk rfl rfl rfl ?_
        refine sk rfl rfl rfl ?_
        refine st rfl rfl rfl (yv_pick rfl rfl (fun _ => rfl) (fun _ => rfl) rfl) ?_
        refine st rfl rfl rfl (yv_assign rfl rfl) ?_
        obtain rfl := nxt_e h1
        refine rg_nil (hK _ ⟨false, (), rfl, leH_kn ⟨⟨_, rfl, (.refl _)⟩, trivial⟩ trivial⟩)
    · intro hb; subst hb; replace h1 := cf h1
      refine sk rfl rfl rfl ?_
      refine sk rfl rfl rfl ?_
      refine sk rfl rfl rfl ?_
      refine sk rfl rfl rfl ?_
      refine sk rfl rfl rfl ?_
      refine st rfl rfl rfl (yv_pick rfl rfl (fun _ => rfl) (fun _ => rfl) rfl) ?_
      refine st rfl rfl rfl (yv_move rfl rfl) ?_
      refine sk rfl rfl rfl ?_
      refine sk rfl rfl rfl ?_
      refine sk rfl rfl rfl ?_
      refine sk rfl rfl rfl ?_
      refine sk rfl rfl rfl ?_
      refine st rfl rfl rfl (yv_pick rfl rfl (fun _ => rfl) (fun _ => rfl) rfl) ?_
      refine st rfl rfl rfl (yv_move rfl rfl) ?_
      refine sk rfl rfl rfl ?_
      refine sk rfl rfl rfl ?_
      refine sk rfl rfl rfl ?_
      refine sk rfl rfl rfl ?_
      refine sk rfl rfl rfl ?_
      refine st rfl rfl rfl (yv_pick rfl rfl (fun _ => rfl) (fun _ => rfl) rfl) ?_
      refine st rfl rfl rfl (yv_move rfl rfl) ?_
      refine sk rfl rfl rfl ?_
      refine sk rfl rfl rfl ?_
      refine sk rfl rfl rfl ?_
      refine sk rfl rfl rfl ?_
      refine sk rfl rfl rfl ?_
      refine st rfl rfl rfl (yv_pick rfl rfl (fun _ => rfl) (fun _ => rfl) rfl) ?_
      refine st rfl rfl rfl (yv_assign rfl rfl) ?_
      obtain rfl := nxt_e h1
      refine rg_nil (hK _ ⟨false, (), rfl, leH_kn ⟨⟨_, rfl, (.refl _)⟩, trivial⟩ trivial⟩)
  · rintro y6_1 _ rfl
    refine c_show ⟨kn [(4, boo y6_1)], hk []⟩ ?_
    obtain rfl := nxt_e h0
    refine c_ret (hret _ _ _ (.tmp rfl .nil) (fun _ _ h => h) ?_)
    exact .refl _
end Go.Pv
