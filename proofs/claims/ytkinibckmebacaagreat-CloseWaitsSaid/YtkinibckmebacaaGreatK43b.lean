import Derived.Test.YtkinibckmebacaaGreatK43
set_option linter.unusedVariables false
namespace Go.Pv
open Go.Proofs
set_option maxRecDepth 10000
set_option maxHeartbeats 1000000
def d_gl_Post_L0 (x9 : (List GLine) × Int) : Nat → Int → (List Int) → Option ((List Int))
  | 0, _, _ => none
  | n + 1, y1_1, y1_2 =>
    bnd (decide (y1_1 < (x9.1.length : Int))) fun x16 =>
    cond x16 ((ix x9.1 y1_1).bind fun x17 =>
    (ix y1_2 x17.Account).bind fun x19 =>
    (d_money_Add x19 x17.Amount).bind fun x20 =>
    bnd (y1_2.set (Int.toNat x17.Account) (x20.1 : Int)) fun x21 =>
    bnd (decide (x20.2 ≠ 0)) fun x22 =>
    asrt (x22 = false) <|
    bnd (w64 (y1_1 + 1)) fun x23 =>
    d_gl_Post_L0 x9 n (x23 : Int) (x21 : List Int)) (some (y1_2 : List Int))
def d_gl_Post (n : Nat) (a1 : List Int) (a2 : List GLine) : Option ((List Int) × Int) :=
bnd (decide ((a1.length : Int) ≠ 17)) fun x4 =>
asrt (x4 = false) <|
(show Option (((List Int))) from
asrt (a1.length ≤ 68719476736) <|
(show Option (((List Int))) from
(d_voucher_Plain n a2).bind fun x9 =>
(show Option (Bool) from
bnd (decide (x9.2 ≠ 0)) fun x11 =>
cond x11 (some (true : Bool)) (bnd (decide ((x9.1.length : Int) > 0)) fun x12 =>
cond x12 ((d_voucher_Check n x9.1).bind fun x13 =>
bnd (!x13) fun x14 =>
some (x14 : Bool)) (some (false : Bool)))).bind <| fun y0_1 =>
asrt (y0_1 = false) <|
(show Option ((List Int)) from
d_gl_Post_L0 x9 n (0 : Int) (a1 : List Int)).bind <| fun y2_1 =>
some (y2_1 : List Int)).bind <| fun y3_1 =>
asrt (y3_1.length = a1.length) <|
some (y3_1 : List Int)).bind <| fun y4_2 =>
some ((y4_2 : List Int), (0 : Int))
theorem d_gl_Post_c {n : Nat} {a1 : List Int} {a2 : List GLine} {r : (List Int) × Int} (h0 : d_gl_Post n a1 a2 = some r) : PP Tryz.prog 130 [lst 1 fI a1, lst 2 GLine.av a2] (fun y => y = .tup [lst 1 fI r.1, int r.2]) := by
  unfold d_gl_Post at h0
  refine pp_of_pc (R0 := fun y H => Cv (frzH H) y (.tup [lst 1 fI r.1, int r.2])) ?_ (fun y H hc => ⟨_, rfl, .tup (pvl2 ((pvLs pvcI) (r.1)) (pvI (r.2))), hc⟩)
  refine pcw (c := _) Tryz.func130 rfl rfl ?_; intro Q hret hnorm
  refine tc tbk 2 (.mk ?_)
  refine sB 1 fun v3 => ?_
  refine tr tbk 7 (.mk ?_)
  refine sY (yv_len_sl rfl Tryz.underlying22 rfl (lst_len _)) ?_
  refine nb tbk h0 fun x4 h0 => ?_
  refine tr tbk 1 (.mk ?_)
  replace h0 := asrt_e h0
  obtain ⟨rfl, h0⟩ := h0
  refine tc tbk 6 (.mk ?_)
  obtain ⟨j5, h1, h0⟩ := bind_e h0
  refine rse (Out := fun y H' => (∃ (a : (List Int)) (k : Nat), a = j5 ∧ Cv H' y (.tup [.sl 2 k 0 a.length, int 0]) ∧ H' = hk [(1, ⟨126, 1, true, true, v3, [[lst 2 GLine.av a2]]⟩), (2, ⟨3, 1, true, true, k, a.map fI⟩)])) rfl rfl rfl (yl_call rfl rfl (.cons rfl (.cons rfl .nil)) cal205 ?_) ?_
  refine pcw (c := _) Tryz.func205 rfl rfl ?_; intro Q hret hnorm
  refine tc tbk 8 (.mk ?_)
  obtain ⟨p6, h1⟩ := asrt_e h1
  refine rse rfl rfl rfl (yl_call rfl rfl (.cons rfl .nil) cal93 (pc_cv (clone93_c (id := 2) (l := a1) rfl p6) (.cons (.refl _) .nil))) ?_; rintro _ _ ⟨v7, rfl, rfl⟩
  refine tr tbk 7 (.mk ?_)
  obtain ⟨j8, h2, h1⟩ := bind_e h1
  refine rse (Out := fun y H' => (∃ (a : (List Int)) (k : Unit), a = j8 ∧ y = int 0 ∧ H' = hk [(1, ⟨126, 1, true, true, v3, [[lst 2 GLine.av a2]]⟩), (2, ⟨3, 1, true, true, v7, a.map fI⟩)])) rfl rfl rfl (yl_call rfl rfl (.cons rfl .nil) cal206 ?_) ?_
  refine pcw (c := _) Tryz.func206 rfl rfl ?_; intro Q hret hnorm
  refine tc tbk 7 (.mk ?_)
  obtain ⟨x9, e9, h2⟩ := bind_e h2
  refine sC cal129 (d_voucher_Plain_c e9) ?_
  refine tr tbk 8 (.mk ?_)
  refine jn h2 [0, 3, 4] [1, 2] (fun (a : Bool) (k : Unit) => [(24, boo a)]) (fun a k => []) ⟨fun j10 h3 => ?_, ?_⟩
  refine tc tbk 2 (.mk ?_)
  refine nb tbk h3 fun x11 h3 => ?_
  refine tr tbk 1 (.mk ?_)
  cases x11
  replace h3 := cf h3
  refine tr tbk 1 (.mk ?_)
  refine sY (yv_len_sl rfl Tryz.underlying126 rfl (lst_len _)) ?_
  refine nb tbk h3 fun x12 h3 => ?_
  refine tr tbk 1 (.mk ?_)
  cases x12
  replace h3 := cf h3
  refine tr tbk 6 (.mk ?_)
  exact lf h3 () leA
  replace h3 := ct h3
  refine tr tbk 1 (.mk ?_)
  obtain ⟨x13, e13, h3⟩ := bind_e h3
  refine sC cal207 (d_voucher_Check_c e13) ?_
  refine nb tbk h3 fun x14 h3 => ?_
  refine tr tbk 3 (.mk ?_)
  exact lf h3 () leA
  replace h3 := ct h3
  refine tr tbk 10 (.mk ?_)
  exact lf h3 () leA
  rintro y0_1 _ h2
  replace h2 := asrt_e h2
  obtain ⟨rfl, h2⟩ := h2
  refine tc tbk 6 (.mk ?_)
  refine sY (yv_len_sl rfl Tryz.underlying126 rfl (lst_len _)) ?_
  refine tr tbk 2 (.mk ?_)
  refine jn h2 [3] [1] (fun (a : (List Int)) (k : Unit) => []) (fun a k => [(2, ⟨3, 1, true, true, v7, a.map fI⟩)]) ⟨fun j15 h3 => ?_, ?_⟩
  refine tc tbk 1 (.mk ?_)
  refine lp (fun n (a : Int × (List Int)) => d_gl_Post_L0 x9 n a.1 a.2) ((0 : Int), (a1 : List Int)) () h3 [3, 25, 26] [1] (fun (a : Int × (List Int)) (k : Unit) => [(0, .sl 2 v7 0 a.2.length), (27, int a.1)]) (fun a k => [(2, ⟨3, 1, true, true, v7, a.2.map fI⟩)]) (fun _ => rfl) ⟨leA, ?_⟩
  rintro n ⟨y1_1, y1_2⟩ _ hm h3
  replace h3 : d_gl_Post_L0 x9 (n + 1) y1_1 y1_2 = some _ := h3
  rw [d_gl_Post_L0] at h3
  refine tc tbk 2 (.mk ?_)
  refine nb tbk h3 fun x16 h3 => ?_
  refine tr tbk 2 (.mk ?_)
  cases x16
  replace h3 := cf h3
  refine tc tbk 2 (.mk ?_)
  exact lf h3 () leA
  replace h3 := ct h3
  refine tc tbk 6 (.mk ?_)
  obtain ⟨x17, e17, h3⟩ := bind_e h3
  refine sY (yv_ixT rfl Tryz.underlying126 sh125 rfl rfl e17) ?_
  refine tr tbk 1 (.mk ?_)
  refine sA 3 z125 fun v18 => ?_
  refine sS ⟨125, 2, true, true, v18, [[int x17.Account, int x17.Amount]]⟩ sh125 ?_
  refine tr tbk 2 (.mk ?_)
  refine c_drawE [0, 0, 2, 0, 0, 16, 56, 120, 0, 256, 1016, 2040, 4088, 4088, 8191, 24575, 65535] (rl [(1, [3]), (2, [3]), (4, [3]), (5, [3]), (6, [2]), (7, [2]), (8, [3]), (9, [3]), (14, [2])] []) (rl [(15, [])] [2, 3]) (rl [(15, false)] true) [0, 1, 2, 3, 4, 5, 6, 7, 8, 9, 10, 11, 12, 13, 14, 15, 16] mixed (by kernel_rfl) ?_; intro K hK
  refine eM ?_
  refine eF fo125_0 ?_
  refine eL sh3 ?_
  refine eM ?_
  refine eF fo125_0 ?_
  refine eL sh3 ?_
  obtain ⟨x19, e19, h3⟩ := bind_e h3
  refine de_pure rfl rfl rfl rfl (fun H hH => yv_ixO rfl Tryz.underlying22 sh3 rfl rfl ((hH _ (by decide)).trans rfl) rfl rfl (Eq.symm rfl) (List.length_map _) e19) ?_
  refine eL sh3 (hr := ix_get e19) ?_
  refine eF fo125_1 ?_
  refine eL sh3 ?_
  obtain ⟨x20, e20, h3⟩ := bind_e h3
  refine eP (fun H hH => yv_callP rfl rfl (.cons rfl (.cons rfl .nil)) cal134 (CvL.refl _) (d_money_Add_c e20)) ?_
  refine eM ?_
  iterate 2 refine eX ?_
  refine de_pure rfl rfl rfl rfl (fun H hH => yv_ixO rfl Tryz.underlying22 sh3 rfl rfl ((hH _ (by decide)).trans rfl) rfl rfl (Eq.symm rfl) (List.length_map _) e19) ?_
  obtain ⟨x21, e21, h3⟩ := bnd_e h3
  have fx21 := ix_set e19 e21; have lx21 := len_setV e21 (rfl : y1_2.length = y1_2.length)
  refine de_eff0 rfl rfl rfl rfl (Yield.weak (yl_ob (ob' := (⟨3, 1, true, true, v7, x21.map fI⟩ : AObj)) (yl_store rfl sh3 rfl rfl rfl rfl rfl (ix_get e19) rfl rfl rfl) (ob_eq (map_setV e21))) (fun _ h => h) (fun _ _ => trivial)) (by rintro _ _ ⟨rfl, rfl⟩; exact trivial) ?_; rintro _ _ ⟨rfl, rfl⟩
  refine eA ?_
  refine de_nil (hK _ ?_)
  refine tc tbk 3 (.mk ?_)
  refine nb tbk h3 fun x22 h3 => ?_
  refine tr tbk 1 (.mk ?_)
  replace h3 := asrt_e h3
  obtain ⟨rfl, h3⟩ := h3
  refine tc tbk 4 (.mk ?_)
  refine ni tbk h3 fun x23 h3 => ?_
  refine tr tbk 2 (.mk ?_)
  exact bk (x23, x21) () h3 (leH_kn ⟨⟨_, rfl, (cv_slen (Eq.symm lx21))⟩, ⟨_, rfl, (.refl _)⟩, ⟨_, rfl, (.refl _)⟩, ⟨_, rfl, (.refl _)⟩, ⟨_, rfl, (.refl _)⟩, trivial⟩ ⟨⟨_, rfl, (.refl _)⟩, ⟨_, rfl, (.refl _)⟩, trivial⟩)
  rintro y2_1 _ h2
  refine tc tbk 4 (.mk ?_)
  obtain rfl := nxt_e h2
  refine w_ret (hret _ _ (hk [(1, ⟨126, 1, true, true, v3, [[lst 2 GLine.av a2]]⟩), (2, ⟨3, 1, true, true, v7, y2_1.map fI⟩)]) (.tmp rfl .nil) (HK.le ⟨rfl, rfl, trivial⟩) ?_)
  exact ⟨y2_1, (), rfl, rfl, rfl⟩
  rintro y _ ⟨y3_1, _, rfl, hc, rfl⟩
  subst hc
  refine tr tbk 5 (.mk ?_)
  refine sY (yv_to (y := boo false) (yv_neq rfl rfl rfl) (congrArg boo (by decide))) ?_
  refine tr tbk 5 (.mk ?_)
  obtain ⟨p24, h1⟩ := asrt_e h1
  refine sY (yv_move rfl rfl) ?_
  refine tr tbk 3 (.mk ?_)
  obtain rfl := nxt_e h1
  refine w_ret (hret _ _ (hk [(1, ⟨126, 1, true, true, v3, [[lst 2 GLine.av a2]]⟩), (2, ⟨3, 1, true, true, v7, y3_1.map fI⟩)]) (.tmp rfl (.tmp rfl .nil)) (HK.le ⟨rfl, rfl, trivial⟩) ?_)
  exact ⟨y3_1, v7, rfl, (CvL.tup (.cons (cv_slen (Eq.symm p24)) (.cons (.refl _) .nil))), rfl⟩
  rintro y _ ⟨y4_2, w4_1, rfl, hc, rfl⟩
  refine rs_cv 11 (.tup [.sl 2 w4_1 0 y4_2.length, int 0]) rfl hc ?_
  refine tr tbk 5 (.mk ?_)
  obtain rfl := nxt_e h0
  refine wR hret (rT (rT .nil)) ?_
  exact CvL.tup (.cons (cv_lst rfl rfl rfl rfl rfl (Eq.symm rfl)) (.cons (.refl _) .nil))
def d_stock_Post (n : Nat) (a1 : GState) (a2 : Int) (a3 : List GLine) : Option (GState × Int) :=
(show Option (Bool) from
bnd (decide (a2 < 0)) fun x7 =>
cond x7 (some (true : Bool)) (bnd (decide (a2 ≥ (a1.Ents.length : Int))) fun x8 =>
some (x8 : Bool))).bind <| fun y0_1 =>
asrt (y0_1 = false) <|
(d_voucher_Plain n a3).bind fun x9 =>
bnd (decide (x9.2 ≠ 0)) fun x10 =>
asrt (x10 = false) <|
(ix a1.Ents a2).bind fun x11 =>
(d_gl_Post n x11.Bal x9.1).bind fun x12 =>
bnd (decide (x12.2 ≠ 0)) fun x13 =>
asrt (x13 = false) <|
(show Option ((Unit)) from
asrt (a1.Ents.length ≤ 68719476736) <|
(ix a1.Ents a2).bind fun x18 =>
some ()).bind <| fun _ =>
(ix a1.Ents a2).bind fun x19 =>
bnd (a1.Ents.set (Int.toNat a2) ((⟨x19.Now, x19.Closed, x19.Pools, x12.1, x19.Rolls, x19.Prices, x19.Down, x19.Ahead⟩ : GEnt) : GEnt)) fun x20 =>
some (((⟨a1.Master, x20, a1.Receipts, a1.Sales, a1.Transits, a1.Done⟩ : GState) : GState), (0 : Int))
theorem d_stock_Post_c {n : Nat} {a1 : GState} {a2 : Int} {a3 : List GLine} {r : GState × Int} (h0 : d_stock_Post n a1 a2 a3 = some r) : PP Tryz.prog 76 [.agg (GState.av a1), int a2, lst 2 GLine.av a3] (fun y => y = .tup [.agg (GState.av r.1), int r.2]) := by
  unfold d_stock_Post at h0
  refine pp_of_pc (R0 := fun y H => Cv (frzH H) y (.tup [.agg (GState.av r.1), int r.2])) ?_ (fun y H hc => ⟨_, rfl, .tup (pvl2 ((fun (a : GState) => PV.agg (GState.pvc a)) (r.1)) (pvI (r.2))), hc⟩)
  refine pcw (c := _) Tryz.func76 rfl rfl ?_; intro Q hret hnorm
  refine tc tbk 2 (.mk ?_)
  refine sB 1 fun v4 => ?_
  refine sA 2 z31 fun v5 => ?_
  refine tr tbk 4 (.mk ?_)
  refine jn h0 [1, 2, 3, 6, 7] [1, 2] (fun (a : Bool) (k : Unit) => [(20, boo a)]) (fun a k => []) ⟨fun j6 h1 => ?_, ?_⟩
  refine tc tbk 2 (.mk ?_)
  refine nb tbk h1 fun x7 h1 => ?_
  refine tr tbk 1 (.mk ?_)
  cases x7
  replace h1 := cf h1
  refine tr tbk 3 (.mk ?_)
  refine sY (yv_len_sl rfl Tryz.underlying26 rfl (lst_len _)) ?_
  refine nb tbk h1 fun x8 h1 => ?_
  refine tr tbk 2 (.mk ?_)
  exact lf h1 () leA
  replace h1 := ct h1
  refine tr tbk 7 (.mk ?_)
  exact lf h1 () leA
  rintro y0_1 _ h0
  replace h0 := asrt_e h0
  obtain ⟨rfl, h0⟩ := h0
  refine tc tbk 5 (.mk ?_)
  obtain ⟨x9, e9, h0⟩ := bind_e h0
  refine sC cal129 (d_voucher_Plain_c e9) ?_
  refine tr tbk 10 (.mk ?_)
  refine nb tbk h0 fun x10 h0 => ?_
  refine tr tbk 1 (.mk ?_)
  replace h0 := asrt_e h0
  obtain ⟨rfl, h0⟩ := h0
  refine tc tbk 7 (.mk ?_)
  obtain ⟨x11, e11, h0⟩ := bind_e h0
  refine sY (yv_to (y := .pp [int x11.Now, boo x11.Closed, lst 4 GPool.av x11.Pools, lst 1 fI x11.Bal, lst 11 GRoll.av x11.Rolls, lst 1 fI x11.Prices, lst 1 fI x11.Down, lst 8 GEnt.av x11.Ahead]) (yv_ixT rfl Tryz.underlying26 sh46 rfl rfl e11) (congrArg AV.pp (GEnt.av_eq x11))) ?_
  refine tr tbk 3 (.mk ?_)
  obtain ⟨x12, e12, h0⟩ := bind_e h0
  refine sC cal130 (d_gl_Post_c e12) ?_
  refine tr tbk 10 (.mk ?_)
  refine nb tbk h0 fun x13 h0 => ?_
  refine tr tbk 1 (.mk ?_)
  replace h0 := asrt_e h0
  obtain ⟨rfl, h0⟩ := h0
  refine tc tbk 5 (.mk ?_)
  refine sY (yv_build (cs := (GState.av a1)) (ps := [(0, _)]) rfl pl173 z173 rfl (.cons rfl .nil) (by kernel_rfl)) ?_
  refine sA 3 z173 fun v14 => ?_
  refine sS ⟨173, 10, true, true, v14, [(GState.av a1)]⟩ sh173 ?_
  refine tr tbk 4 (.mk ?_)
  obtain ⟨j15, h1, h0⟩ := bind_e h0
  refine rse (Out := fun y H' => (∃ (a : Unit) (k : Nat), a = j15 ∧ y = .pt 4 k (Int.toNat a2) 0 ∧ H' = hk [(1, ⟨31, 10, true, true, v4, [(GState.av a1)]⟩), (2, ⟨31, 10, true, true, v5, [[int 0, int 0, .sc (.slice none 0 0), .sc (.slice none 0 0), .sc (.slice none 0 0), .sc (.slice none 0 0), .sc (.slice none 0 0), .sc (.slice none 0 0), .sc (.slice none 0 0), int 0]]⟩), (3, ⟨173, 10, true, true, v14, [[int a1.Master.Entities, int a1.Master.Periods, lst 1 fI a1.Master.Weights, lst 1 (fL 1 fI) a1.Master.Methods, lst 1 (fL 1 fI) a1.Master.Costs, .sl 4 k 0 a1.Ents.length, lst 8 GReceipt.av a1.Receipts, lst 9 GSale.av a1.Sales, lst 6 GTransit.av a1.Transits, int a1.Done]]⟩), (4, ⟨46, 8, true, true, k, a1.Ents.map GEnt.av⟩)])) rfl rfl rfl (yl_call rfl rfl (.cons rfl (.cons rfl .nil)) cal131 ?_) ?_
  refine pcw (c := _) Tryz.func131 rfl rfl ?_; intro Q hret hnorm
  refine tc tbk 12 (.mk ?_)
  obtain ⟨p16, h1⟩ := asrt_e h1
  refine rse rfl rfl rfl (yl_call rfl rfl (.cons rfl .nil) cal52 (pc_cv (clone52_c (id := 4) (l := a1.Ents) rfl p16) (.cons (.refl _) .nil))) ?_; rintro _ _ ⟨v17, rfl, rfl⟩
  refine tr tbk 3 (.mk ?_)
  refine sS ⟨173, 10, true, true, v14, [[int a1.Master.Entities, int a1.Master.Periods, lst 1 fI a1.Master.Weights, lst 1 (fL 1 fI) a1.Master.Methods, lst 1 (fL 1 fI) a1.Master.Costs, .sl 4 v17 0 a1.Ents.length, lst 8 GReceipt.av a1.Receipts, lst 9 GSale.av a1.Sales, lst 6 GTransit.av a1.Transits, int a1.Done]]⟩ sh26 ?_
  refine tr tbk 9 (.mk ?_)
  obtain ⟨x18, e18, h1⟩ := bind_e h1
  refine sY (yv_ixO rfl Tryz.underlying26 sh46 rfl rfl rfl rfl rfl (Eq.symm rfl) (List.length_map _) e18) ?_
  refine tr tbk 2 (.mk ?_)
  obtain rfl := nxt_e h1
  refine w_ret (hret _ _ (hk [(1, ⟨31, 10, true, true, v4, [(GState.av a1)]⟩), (2, ⟨31, 10, true, true, v5, [[int 0, int 0, .sc (.slice none 0 0), .sc (.slice none 0 0), .sc (.slice none 0 0), .sc (.slice none 0 0), .sc (.slice none 0 0), .sc (.slice none 0 0), .sc (.slice none 0 0), int 0]]⟩), (3, ⟨173, 10, true, true, v14, [[int a1.Master.Entities, int a1.Master.Periods, lst 1 fI a1.Master.Weights, lst 1 (fL 1 fI) a1.Master.Methods, lst 1 (fL 1 fI) a1.Master.Costs, .sl 4 v17 0 a1.Ents.length, lst 8 GReceipt.av a1.Receipts, lst 9 GSale.av a1.Sales, lst 6 GTransit.av a1.Transits, int a1.Done]]⟩), (4, ⟨46, 8, true, true, v17, a1.Ents.map GEnt.av⟩)]) (.tmp rfl .nil) (HK.le ⟨rfl, rfl, rfl, rfl, trivial⟩) ?_)
  exact ⟨(), v17, rfl, rfl, rfl⟩
  rintro y _ ⟨_, w1_1, rfl, hc, rfl⟩
  subst hc
  refine tr tbk 1 (.mk ?_)
  obtain ⟨x19, e19, h0⟩ := bind_e h0
  refine sY (yv_nilCheck rfl rfl (.pt rfl rfl (ix_get' e19 (GEnt.av_eq _)))) ?_
  refine sY (yv_fieldAddr rfl fo46_3 rfl (.pt rfl rfl (ix_get' e19 (GEnt.av_eq _))) (.pt _ _ _ _ _)) ?_
  obtain ⟨x20, e20, h0⟩ := bnd_e h0
  have fx20 := ix_set e19 e20; have lx20 := len_setV e20 (rfl : a1.Ents.length = a1.Ents.length)
  refine rsstore rfl rfl (yl_ob (ob' := (⟨46, 8, true, true, w1_1, x20.map GEnt.av⟩ : AObj)) (yl_store rfl sh22 rfl rfl rfl rfl rfl (ix_get' e19 (GEnt.av_eq _)) rfl rfl rfl) (ob_eq (map_setR e20 (GEnt.av_eq _)))) ?_
  refine tr tbk 5 (.mk ?_)
  refine sS ⟨31, 10, true, true, v5, [[int a1.Master.Entities, int a1.Master.Periods, lst 1 fI a1.Master.Weights, lst 1 (fL 1 fI) a1.Master.Methods, lst 1 (fL 1 fI) a1.Master.Costs, .sl 4 w1_1 0 a1.Ents.length, lst 8 GReceipt.av a1.Receipts, lst 9 GSale.av a1.Sales, lst 6 GTransit.av a1.Transits, int a1.Done]]⟩ sh31 ?_
  refine tr tbk 2 (.mk ?_)
  obtain rfl := nxt_e h0
  refine wR hret (rC sh31 (rT .nil)) ?_
  exact CvL.tup (.cons (CvL.agg (.cons (.refl _) (.cons (.refl _) (.cons (.refl _) (.cons (.refl _) (.cons (.refl _) (.cons (cv_lst rfl rfl rfl rfl rfl (Eq.symm lx20)) (.cons (.refl _) (.cons (.refl _) (.cons (.refl _) (.cons (.refl _) .nil))))))))))) (.cons (.refl _) .nil))
def d_stock_Turn (a1 : GState) (a2 : Int) (a3 : Int) (a4 : GRoll) : Option (GState × Int) :=
(d_stock_is a1 a2 a3).bind fun x8 =>
bnd (!x8) fun x9 =>
asrt (x9 = false) <|
(ix a1.Ents a2).bind fun x10 =>
(ix x10.Rolls a3).bind fun x11 =>
(show Option ((Unit)) from
some ()).bind <| fun _ =>
(show Option (GRoll) from
(ix ([a4.Open, a4.Bought, a4.Landed, a4.Arrived, a4.Returned, a4.Sold, a4.Shipped, a4.SentBack, a4.Scrapped, a4.Lost, a4.Revalued] : List Int) 0).bind fun x16 =>
(show Option ((Unit)) from
some ()).bind <| fun _ =>
(d_money_Add x11.Open x16).bind fun x18 =>
bnd (decide (x18.2 ≠ 0)) fun x19 =>
asrt (x19 = false) <|
(ix ([a4.Open, a4.Bought, a4.Landed, a4.Arrived, a4.Returned, a4.Sold, a4.Shipped, a4.SentBack, a4.Scrapped, a4.Lost, a4.Revalued] : List Int) 1).bind fun x20 =>
(show Option ((Unit)) from
some ()).bind <| fun _ =>
(d_money_Add x11.Bought x20).bind fun x22 =>
bnd (decide (x22.2 ≠ 0)) fun x23 =>
asrt (x23 = false) <|
(ix ([a4.Open, a4.Bought, a4.Landed, a4.Arrived, a4.Returned, a4.Sold, a4.Shipped, a4.SentBack, a4.Scrapped, a4.Lost, a4.Revalued] : List Int) 2).bind fun x24 =>
(show Option ((Unit)) from
some ()).bind <| fun _ =>
(d_money_Add x11.Landed x24).bind fun x26 =>
bnd (decide (x26.2 ≠ 0)) fun x27 =>
asrt (x27 = false) <|
(ix ([a4.Open, a4.Bought, a4.Landed, a4.Arrived, a4.Returned, a4.Sold, a4.Shipped, a4.SentBack, a4.Scrapped, a4.Lost, a4.Revalued] : List Int) 3).bind fun x28 =>
(show Option ((Unit)) from
some ()).bind <| fun _ =>
(d_money_Add x11.Arrived x28).bind fun x30 =>
bnd (decide (x30.2 ≠ 0)) fun x31 =>
asrt (x31 = false) <|
(ix ([a4.Open, a4.Bought, a4.Landed, a4.Arrived, a4.Returned, a4.Sold, a4.Shipped, a4.SentBack, a4.Scrapped, a4.Lost, a4.Revalued] : List Int) 4).bind fun x32 =>
(show Option ((Unit)) from
some ()).bind <| fun _ =>
(d_money_Add x11.Returned x32).bind fun x34 =>
bnd (decide (x34.2 ≠ 0)) fun x35 =>
asrt (x35 = false) <|
(ix ([a4.Open, a4.Bought, a4.Landed, a4.Arrived, a4.Returned, a4.Sold, a4.Shipped, a4.SentBack, a4.Scrapped, a4.Lost, a4.Revalued] : List Int) 5).bind fun x36 =>
(show Option ((Unit)) from
some ()).bind <| fun _ =>
(d_money_Add x11.Sold x36).bind fun x38 =>
bnd (decide (x38.2 ≠ 0)) fun x39 =>
asrt (x39 = false) <|
(ix ([a4.Open, a4.Bought, a4.Landed, a4.Arrived, a4.Returned, a4.Sold, a4.Shipped, a4.SentBack, a4.Scrapped, a4.Lost, a4.Revalued] : List Int) 6).bind fun x40 =>
(show Option ((Unit)) from
some ()).bind <| fun _ =>
(d_money_Add x11.Shipped x40).bind fun x42 =>
bnd (decide (x42.2 ≠ 0)) fun x43 =>
asrt (x43 = false) <|
(ix ([a4.Open, a4.Bought, a4.Landed, a4.Arrived, a4.Returned, a4.Sold, a4.Shipped, a4.SentBack, a4.Scrapped, a4.Lost, a4.Revalued] : List Int) 7).bind fun x44 =>
(show Option ((Unit)) from
some ()).bind <| fun _ =>
(d_money_Add x11.SentBack x44).bind fun x46 =>
bnd (decide (x46.2 ≠ 0)) fun x47 =>
asrt (x47 = false) <|
(ix ([a4.Open, a4.Bought, a4.Landed, a4.Arrived, a4.Returned, a4.Sold, a4.Shipped, a4.SentBack, a4.Scrapped, a4.Lost, a4.Revalued] : List Int) 8).bind fun x48 =>
(show Option ((Unit)) from
some ()).bind <| fun _ =>
(d_money_Add x11.Scrapped x48).bind fun x50 =>
bnd (decide (x50.2 ≠ 0)) fun x51 =>
asrt (x51 = false) <|
(ix ([a4.Open, a4.Bought, a4.Landed, a4.Arrived, a4.Returned, a4.Sold, a4.Shipped, a4.SentBack, a4.Scrapped, a4.Lost, a4.Revalued] : List Int) 9).bind fun x52 =>
(show Option ((Unit)) from
some ()).bind <| fun _ =>
(d_money_Add x11.Lost x52).bind fun x54 =>
bnd (decide (x54.2 ≠ 0)) fun x55 =>
asrt (x55 = false) <|
(ix ([a4.Open, a4.Bought, a4.Landed, a4.Arrived, a4.Returned, a4.Sold, a4.Shipped, a4.SentBack, a4.Scrapped, a4.Lost, a4.Revalued] : List Int) 10).bind fun x56 =>
(show Option ((Unit)) from
some ()).bind <| fun _ =>
(d_money_Add x11.Revalued x56).bind fun x58 =>
bnd (decide (x58.2 ≠ 0)) fun x59 =>
asrt (x59 = false) <|
some ((⟨x18.1, x22.1, x26.1, x30.1, x34.1, x38.1, x42.1, x46.1, x50.1, x54.1, x58.1⟩ : GRoll) : GRoll)).bind <| fun y2_1 =>
(show Option ((Unit)) from
asrt (a1.Ents.length ≤ 68719476736) <|
(ix a1.Ents a2).bind fun x64 =>
some ()).bind <| fun _ =>
(ix a1.Ents a2).bind fun x65 =>
asrt (x65.Rolls.length ≤ 68719476736) <|
(ix x65.Rolls a3).bind fun x68 =>
bnd (x65.Rolls.set (Int.toNat a3) (y2_1 : GRoll)) fun x69 =>
some (((⟨a1.Master, (a1.Ents.set (Int.toNat a2) (⟨x65.Now, x65.Closed, x65.Pools, x65.Bal, x69, x65.Prices, x65.Down, x65.Ahead⟩ : GEnt)), a1.Receipts, a1.Sales, a1.Transits, a1.Done⟩ : GState) : GState), (0 : Int))
theorem d_stock_Turn_c {a1 : GState} {a2 : Int} {a3 : Int} {a4 : GRoll} {r : GState × Int} (h0 : d_stock_Turn a1 a2 a3 a4 = some r) : PP Tryz.prog 78 [.agg (GState.av a1), int a2, int a3, .agg (GRoll.av a4)] (fun y => y = .tup [.agg (GState.av r.1), int r.2]) := by
  unfold d_stock_Turn at h0
  refine pp_of_pc (R0 := fun y H => Cv (frzH H) y (.tup [.agg (GState.av r.1), int r.2])) ?_ (fun y H hc => ⟨_, rfl, .tup (pvl2 ((fun (a : GState) => PV.agg (GState.pvc a)) (r.1)) (pvI (r.2))), hc⟩)
  refine pcw (c := _) Tryz.func78 rfl rfl ?_; intro Q hret hnorm
  refine tc tbk 2 (.mk ?_)
  refine sB 1 fun v5 => ?_
  refine sB 2 fun v6 => ?_
  refine sA 3 z31 fun v7 => ?_
  refine tr tbk 8 (.mk ?_)
  obtain ⟨x8, e8, h0⟩ := bind_e h0
  refine sC cal124 (d_stock_is_c e8) ?_
  refine nb tbk h0 fun x9 h0 => ?_
  refine tr tbk 1 (.mk ?_)
  replace h0 := asrt_e h0
  obtain ⟨rfl, h0⟩ := h0
  refine tc tbk 7 (.mk ?_)
  obtain ⟨x10, e10, h0⟩ := bind_e h0
  refine sY (yv_to (y := .pp [int x10.Now, boo x10.Closed, lst 4 GPool.av x10.Pools, lst 1 fI x10.Bal, lst 11 GRoll.av x10.Rolls, lst 1 fI x10.Prices, lst 1 fI x10.Down, lst 8 GEnt.av x10.Ahead]) (yv_ixT rfl Tryz.underlying26 sh46 rfl rfl e10) (congrArg AV.pp (GEnt.av_eq x10))) ?_
  refine tr tbk 3 (.mk ?_)
  obtain ⟨x11, e11, h0⟩ := bind_e h0
  refine sY (yv_ixT rfl Tryz.underlying44 sh55 rfl rfl e11) ?_
  refine tr tbk 1 (.mk ?_)
  refine sA 4 z55 fun v12 => ?_
  refine sS ⟨55, 11, true, true, v12, [[int x11.Open, int x11.Bought, int x11.Landed, int x11.Arrived, int x11.Returned, int x11.Sold, int x11.Shipped, int x11.SentBack, int x11.Scrapped, int x11.Lost, int x11.Revalued]]⟩ sh55 ?_
  refine tr tbk 5 (.mk ?_)
  obtain ⟨j13, h1, h0⟩ := bind_e h0
  refine rse (Out := fun y H' => (∃ (a : Unit) (k : Unit), a = j13 ∧ y = lst 1 fI ([a4.Open, a4.Bought, a4.Landed, a4.Arrived, a4.Returned, a4.Sold, a4.Shipped, a4.SentBack, a4.Scrapped, a4.Lost, a4.Revalued] : List Int) ∧ H' = hk [(1, ⟨31, 10, true, true, v5, [(GState.av a1)]⟩), (2, ⟨55, 11, true, true, v6, [[int a4.Open, int a4.Bought, int a4.Landed, int a4.Arrived, int a4.Returned, int a4.Sold, int a4.Shipped, int a4.SentBack, int a4.Scrapped, int a4.Lost, int a4.Revalued]]⟩), (3, ⟨31, 10, true, true, v7, [[int 0, int 0, .sc (.slice none 0 0), .sc (.slice none 0 0), .sc (.slice none 0 0), .sc (.slice none 0 0), .sc (.slice none 0 0), .sc (.slice none 0 0), .sc (.slice none 0 0), int 0]]⟩), (4, ⟨55, 11, true, true, v12, [[int x11.Open, int x11.Bought, int x11.Landed, int x11.Arrived, int x11.Returned, int x11.Sold, int x11.Shipped, int x11.SentBack, int x11.Scrapped, int x11.Lost, int x11.Revalued]]⟩)])) rfl rfl rfl (yl_call rfl rfl (.cons rfl .nil) cal132 ?_) ?_
  refine pcw (c := _) Tryz.func132 rfl rfl ?_; intro Q hret hnorm
  refine tc tbk 2 (.mk ?_)
  refine sB 5 fun v14 => ?_
  refine tr tbk 26 (.mk ?_)
  refine sY (yv_to (y := lst 1 fI ([a4.Open, a4.Bought, a4.Landed, a4.Arrived, a4.Returned, a4.Sold, a4.Shipped, a4.SentBack, a4.Scrapped, a4.Lost, a4.Revalued] : List Int)) (yv_buildSlice (ps := [(0, _), (1, _), (2, _), (3, _), (4, _), (5, _), (6, _), (7, _), (8, _), (9, _), (10, _)]) (rows := [[int a4.Open], [int a4.Bought], [int a4.Landed], [int a4.Arrived], [int a4.Returned], [int a4.Sold], [int a4.Shipped], [int a4.SentBack], [int a4.Scrapped], [int a4.Lost], [int a4.Revalued]]) rfl Tryz.underlying22 bz3 (.cons rfl (.cons rfl (.cons rfl (.cons rfl (.cons rfl (.cons rfl (.cons rfl (.cons rfl (.cons rfl (.cons rfl (.cons rfl .nil))))))))))) (by kernel_rfl) rfl rfl rfl) rfl) ?_
  refine tr tbk 2 (.mk ?_)
  obtain rfl := nxt_e h1
  refine w_ret (hret _ _ (hk [(1, ⟨31, 10, true, true, v5, [(GState.av a1)]⟩), (2, ⟨55, 11, true, true, v6, [[int a4.Open, int a4.Bought, int a4.Landed, int a4.Arrived, int a4.Returned, int a4.Sold, int a4.Shipped, int a4.SentBack, int a4.Scrapped, int a4.Lost, int a4.Revalued]]⟩), (3, ⟨31, 10, true, true, v7, [[int 0, int 0, .sc (.slice none 0 0), .sc (.slice none 0 0), .sc (.slice none 0 0), .sc (.slice none 0 0), .sc (.slice none 0 0), .sc (.slice none 0 0), .sc (.slice none 0 0), int 0]]⟩), (4, ⟨55, 11, true, true, v12, [[int x11.Open, int x11.Bought, int x11.Landed, int x11.Arrived, int x11.Returned, int x11.Sold, int x11.Shipped, int x11.SentBack, int x11.Scrapped, int x11.Lost, int x11.Revalued]]⟩)]) (.tmp rfl .nil) (HK.le ⟨rfl, rfl, rfl, rfl, trivial⟩) ?_)
  exact ⟨(), (), rfl, rfl, rfl⟩
  rintro y _ ⟨_, _, rfl, hc, rfl⟩
  subst hc
  refine sY (yv_to (y := int 11) (yv_len_sl rfl Tryz.underlying22 rfl (lst_len _)) rfl) ?_
  refine tr tbk 2 (.mk ?_)
  refine jn h0 [1, 2, 4, 8, 9, 10] [1, 3] (fun (a : GRoll) (k : Unit) => []) (fun a k => [(4, ⟨55, 11, true, true, v12, [[int a.Open, int a.Bought, int a.Landed, int a.Arrived, int a.Returned, int a.Sold, int a.Shipped, int a.SentBack, int a.Scrapped, int a.Lost, int a.Revalued]]⟩)]) ⟨fun j15 h1 => ?_, ?_⟩
  refine tc tbk 4 (.mk ?_)
  refine sY (yv_to (y := boo true) (yv_lss rfl rfl rfl) (congrArg boo (by decide))) ?_
  refine tr tbk 9 (.mk ?_)
  obtain ⟨x16, e16, h1⟩ := bind_e h1
  refine sY (yv_ixT rfl Tryz.underlying22 sh3 rfl rfl e16) ?_
  refine tr tbk 6 (.mk ?_)
  obtain ⟨j17, h2, h1⟩ := bind_e h1
  refine rse (Out := fun y H' => (∃ (a : Unit) (k : Unit), a = j17 ∧ y = .list 1 [[.pt 4 v12 0 0], [.pt 4 v12 0 1], [.pt 4 v12 0 2], [.pt 4 v12 0 3], [.pt 4 v12 0 4], [.pt 4 v12 0 5], [.pt 4 v12 0 6], [.pt 4 v12 0 7], [.pt 4 v12 0 8], [.pt 4 v12 0 9], [.pt 4 v12 0 10]] ∧ H' = hk [(1, ⟨31, 10, true, true, v5, [(GState.av a1)]⟩), (2, ⟨55, 11, true, true, v6, [[int a4.Open, int a4.Bought, int a4.Landed, int a4.Arrived, int a4.Returned, int a4.Sold, int a4.Shipped, int a4.SentBack, int a4.Scrapped, int a4.Lost, int a4.Revalued]]⟩), (3, ⟨31, 10, true, true, v7, [[int 0, int 0, .sc (.slice none 0 0), .sc (.slice none 0 0), .sc (.slice none 0 0), .sc (.slice none 0 0), .sc (.slice none 0 0), .sc (.slice none 0 0), .sc (.slice none 0 0), int 0]]⟩), (4, ⟨55, 11, true, true, v12, [[int x11.Open, int x11.Bought, int x11.Landed, int x11.Arrived, int x11.Returned, int x11.Sold, int x11.Shipped, int x11.SentBack, int x11.Scrapped, int x11.Lost, int x11.Revalued]]⟩)])) rfl rfl rfl (yl_call rfl rfl (.cons rfl .nil) cal133 ?_) ?_
  refine pcw (c := _) Tryz.func133 rfl rfl ?_; intro Q hret hnorm
  refine tc tbk 5 (.mk ?_)
  refine c_drawE [0, 1, 3, 0, 8, 24, 0, 64, 192, 0, 512, 1536, 0, 4096, 12288, 0, 32768, 98304, 0, 262144, 786432, 0, 2097152, 6291456, 0, 16777216, 50331648, 0, 134217728, 402653184, 0, 1073741824, 3221225472, 8589934591, 17179869183] (rl [(1, [4]), (2, [4]), (4, [4]), (5, [4]), (7, [4]), (8, [4]), (10, [4]), (11, [4]), (13, [4]), (14, [4]), (16, [4]), (17, [4]), (19, [4]), (20, [4]), (22, [4]), (23, [4]), (25, [4]), (26, [4]), (28, [4]), (29, [4]), (31, [4]), (32, [4])] []) (fun i => [4]) (fun i => true) [0, 1, 2, 3, 4, 5, 6, 7, 8, 9, 10, 11, 12, 13, 14, 15, 16, 17, 18, 19, 20, 21, 22, 23, 24, 25, 26, 27, 28, 29, 30, 31, 32, 33, 34] mixed (by kernel_rfl) ?_; intro K hK
  refine eM ?_
  refine eN ?_
  refine eF fo55_0 ?_
  refine eM ?_
  refine eN ?_
  refine eF fo55_1 ?_
  refine eM ?_
  refine eN ?_
  refine eF fo55_2 ?_
  refine eM ?_
  refine eN ?_
  refine eF fo55_3 ?_
  refine eM ?_
  refine eN ?_
  refine eF fo55_4 ?_
  refine eM ?_
  refine eN ?_
  refine eF fo55_5 ?_
  refine eM ?_
  refine eN ?_
  refine eF fo55_6 ?_
  refine eM ?_
  refine eN ?_
  refine eF fo55_7 ?_
  refine eM ?_
  refine eN ?_
  refine eF fo55_8 ?_
  refine eM ?_
  refine eN ?_
  refine eF fo55_9 ?_
  refine eM ?_
  refine eN ?_
  refine eF fo55_10 ?_
  refine eP (fun H hH => yv_buildSlice (ps := [(0, _), (1, _), (2, _), (3, _), (4, _), (5, _), (6, _), (7, _), (8, _), (9, _), (10, _)]) (rows := [[.pt 4 v12 0 0], [.pt 4 v12 0 1], [.pt 4 v12 0 2], [.pt 4 v12 0 3], [.pt 4 v12 0 4], [.pt 4 v12 0 5], [.pt 4 v12 0 6], [.pt 4 v12 0 7], [.pt 4 v12 0 8], [.pt 4 v12 0 9], [.pt 4 v12 0 10]]) rfl Tryz.underlying180 bz89 (.cons rfl (.cons rfl (.cons rfl (.cons rfl (.cons rfl (.cons rfl (.cons rfl (.cons rfl (.cons rfl (.cons rfl (.cons rfl .nil))))))))))) (by kernel_rfl) rfl rfl rfl) ?_
  refine eA ?_
  refine de_nil (hK _ ?_)
  obtain rfl := nxt_e h2
  refine w_ret (hret _ _ (hk [(1, ⟨31, 10, true, true, v5, [(GState.av a1)]⟩), (2, ⟨55, 11, true, true, v6, [[int a4.Open, int a4.Bought, int a4.Landed, int a4.Arrived, int a4.Returned, int a4.Sold, int a4.Shipped, int a4.SentBack, int a4.Scrapped, int a4.Lost, int a4.Revalued]]⟩), (3, ⟨31, 10, true, true, v7, [[int 0, int 0, .sc (.slice none 0 0), .sc (.slice none 0 0), .sc (.slice none 0 0), .sc (.slice none 0 0), .sc (.slice none 0 0), .sc (.slice none 0 0), .sc (.slice none 0 0), int 0]]⟩), (4, ⟨55, 11, true, true, v12, [[int x11.Open, int x11.Bought, int x11.Landed, int x11.Arrived, int x11.Returned, int x11.Sold, int x11.Shipped, int x11.SentBack, int x11.Scrapped, int x11.Lost, int x11.Revalued]]⟩)]) (.tmp rfl .nil) (HK.le ⟨rfl, rfl, rfl, rfl, trivial⟩) ?_)
  exact ⟨(), (), rfl, rfl, rfl⟩
  rintro y _ ⟨_, _, rfl, hc, rfl⟩
  subst hc
  refine tr tbk 1 (.mk ?_)
  refine sY (yv_indexAddr (j := 0) rfl Tryz.underlying180 sh89 rfl rfl rfl (.list rfl)) ?_
  refine tr tbk 9 (.mk ?_)
  obtain ⟨x18, e18, h1⟩ := bind_e h1
  refine sC cal134 (d_money_Add_c e18) ?_
  refine tr tbk 10 (.mk ?_)
  refine nb tbk h1 fun x19 h1 => ?_
  refine tr tbk 1 (.mk ?_)
  replace h1 := asrt_e h1
  obtain ⟨rfl, h1⟩ := h1
  refine tc tbk 6 (.mk ?_)
  refine sS ⟨55, 11, true, true, v12, [[int x18.1, int x11.Bought, int x11.Landed, int x11.Arrived, int x11.Returned, int x11.Sold, int x11.Shipped, int x11.SentBack, int x11.Scrapped, int x11.Lost, int x11.Revalued]]⟩ sh3 ?_
  refine tr tbk 3 (.mk ?_)
  refine sY (yv_add (r := 1) rfl rfl rfl (by decide)) ?_
  refine tr tbk 5 (.mk ?_)
  refine sY (yv_to (y := boo true) (yv_lss rfl rfl rfl) (congrArg boo (by decide))) ?_
  refine tr tbk 9 (.mk ?_)
  obtain ⟨x20, e20, h1⟩ := bind_e h1
  refine sY (yv_ixT rfl Tryz.underlying22 sh3 rfl rfl e20) ?_
  refine tr tbk 6 (.mk ?_)
  obtain ⟨j21, h2, h1⟩ := bind_e h1
  refine rse (Out := fun y H' => (∃ (a : Unit) (k : Unit), a = j21 ∧ y = .list 1 [[.pt 4 v12 0 0], [.pt 4 v12 0 1], [.pt 4 v12 0 2], [.pt 4 v12 0 3], [.pt 4 v12 0 4], [.pt 4 v12 0 5], [.pt 4 v12 0 6], [.pt 4 v12 0 7], [.pt 4 v12 0 8], [.pt 4 v12 0 9], [.pt 4 v12 0 10]] ∧ H' = hk [(1, ⟨31, 10, true, true, v5, [(GState.av a1)]⟩), (2, ⟨55, 11, true, true, v6, [[int a4.Open, int a4.Bought, int a4.Landed, int a4.Arrived, int a4.Returned, int a4.Sold, int a4.Shipped, int a4.SentBack, int a4.Scrapped, int a4.Lost, int a4.Revalued]]⟩), (3, ⟨31, 10, true, true, v7, [[int 0, int 0, .sc (.slice none 0 0), .sc (.slice none 0 0), .sc (.slice none 0 0), .sc (.slice none 0 0), .sc (.slice none 0 0), .sc (.slice none 0 0), .sc (.slice none 0 0), int 0]]⟩), (4, ⟨55, 11, true, true, v12, [[int x18.1, int x11.Bought, int x11.Landed, int x11.Arrived, int x11.Returned, int x11.Sold, int x11.Shipped, int x11.SentBack, int x11.Scrapped, int x11.Lost, int x11.Revalued]]⟩)])) rfl rfl rfl (yl_call rfl rfl (.cons rfl .nil) cal133 ?_) ?_
  refine pcw (c := _) Tryz.func133 rfl rfl ?_; intro Q hret hnorm
  refine tc tbk 5 (.mk ?_)
  refine c_drawE [0, 1, 3, 0, 8, 24, 0, 64, 192, 0, 512, 1536, 0, 4096, 12288, 0, 32768, 98304, 0, 262144, 786432, 0, 2097152, 6291456, 0, 16777216, 50331648, 0, 134217728, 402653184, 0, 1073741824, 3221225472, 8589934591, 17179869183] (rl [(1, [4]), (2, [4]), (4, [4]), (5, [4]), (7, [4]), (8, [4]), (10, [4]), (11, [4]), (13, [4]), (14, [4]), (16, [4]), (17, [4]), (19, [4]), (20, [4]), (22, [4]), (23, [4]), (25, [4]), (26, [4]), (28, [4]), (29, [4]), (31, [4]), (32, [4])] []) (fun i => [4]) (fun i => true) [0, 1, 2, 3, 4, 5, 6, 7, 8, 9, 10, 11, 12, 13, 14, 15, 16, 17, 18, 19, 20, 21, 22, 23, 24, 25, 26, 27, 28, 29, 30, 31, 32, 33, 34] mixed (by kernel_rfl) ?_; intro K hK
  refine eM ?_
  refine eN ?_
  refine eF fo55_0 ?_
  refine eM ?_
  refine eN ?_
  refine eF fo55_1 ?_
  refine eM ?_
  refine eN ?_
  refine eF fo55_2 ?_
  refine eM ?_
  refine eN ?_
  refine eF fo55_3 ?_
  refine eM ?_
  refine eN ?_
  refine eF fo55_4 ?_
  refine eM ?_
  refine eN ?_
  refine eF fo55_5 ?_
  refine eM ?_
  refine eN ?_
  refine eF fo55_6 ?_
  refine eM ?_
  refine eN ?_
  refine eF fo55_7 ?_
  refine eM ?_
  refine eN ?_
  refine eF fo55_8 ?_
  refine eM ?_
  refine eN ?_
  refine eF fo55_9 ?_
  refine eM ?_
  refine eN ?_
  refine eF fo55_10 ?_
  refine eP (fun H hH => yv_buildSlice (ps := [(0, _), (1, _), (2, _), (3, _), (4, _), (5, _), (6, _), (7, _), (8, _), (9, _), (10, _)]) (rows := [[.pt 4 v12 0 0], [.pt 4 v12 0 1], [.pt 4 v12 0 2], [.pt 4 v12 0 3], [.pt 4 v12 0 4], [.pt 4 v12 0 5], [.pt 4 v12 0 6], [.pt 4 v12 0 7], [.pt 4 v12 0 8], [.pt 4 v12 0 9], [.pt 4 v12 0 10]]) rfl Tryz.underlying180 bz89 (.cons rfl (.cons rfl (.cons rfl (.cons rfl (.cons rfl (.cons rfl (.cons rfl (.cons rfl (.cons rfl (.cons rfl (.cons rfl .nil))))))))))) (by kernel_rfl) rfl rfl rfl) ?_
  refine eA ?_
  refine de_nil (hK _ ?_)
  obtain rfl := nxt_e h2
  refine w_ret (hret _ _ (hk [(1, ⟨31, 10, true, true, v5, [(GState.av a1)]⟩), (2, ⟨55, 11, true, true, v6, [[int a4.Open, int a4.Bought, int a4.Landed, int a4.Arrived, int a4.Returned, int a4.Sold, int a4.Shipped, int a4.SentBack, int a4.Scrapped, int a4.Lost, int a4.Revalued]]⟩), (3, ⟨31, 10, true, true, v7, [[int 0, int 0, .sc (.slice none 0 0), .sc (.slice none 0 0), .sc (.slice none 0 0), .sc (.slice none 0 0), .sc (.slice none 0 0), .sc (.slice none 0 0), .sc (.slice none 0 0), int 0]]⟩), (4, ⟨55, 11, true, true, v12, [[int x18.1, int x11.Bought, int x11.Landed, int x11.Arrived, int x11.Returned, int x11.Sold, int x11.Shipped, int x11.SentBack, int x11.Scrapped, int x11.Lost, int x11.Revalued]]⟩)]) (.tmp rfl .nil) (HK.le ⟨rfl, rfl, rfl, rfl, trivial⟩) ?_)
  exact ⟨(), (), rfl, rfl, rfl⟩
  rintro y _ ⟨_, _, rfl, hc, rfl⟩
  subst hc
  refine tr tbk 1 (.mk ?_)
  refine sY (yv_indexAddr (j := 1) rfl Tryz.underlying180 sh89 rfl rfl rfl (.list rfl)) ?_
  refine tr tbk 9 (.mk ?_)
  obtain ⟨x22, e22, h1⟩ := bind_e h1
  refine sC cal134 (d_money_Add_c e22) ?_
  refine tr tbk 10 (.mk ?_)
  refine nb tbk h1 fun x23 h1 => ?_
  refine tr tbk 1 (.mk ?_)
  replace h1 := asrt_e h1
  obtain ⟨rfl, h1⟩ := h1
  refine tc tbk 6 (.mk ?_)
  refine sS ⟨55, 11, true, true, v12, [[int x18.1, int x22.1, int x11.Landed, int x11.Arrived, int x11.Returned, int x11.Sold, int x11.Shipped, int x11.SentBack, int x11.Scrapped, int x11.Lost, int x11.Revalued]]⟩ sh3 ?_
  refine tr tbk 3 (.mk ?_)
  refine sY (yv_add (r := 2) rfl rfl rfl (by decide)) ?_
  refine tr tbk 5 (.mk ?_)
  refine sY (yv_to (y := boo true) (yv_lss rfl rfl rfl) (congrArg boo (by decide))) ?_
  refine tr tbk 9 (.mk ?_)
  obtain ⟨x24, e24, h1⟩ := bind_e h1
  refine sY (yv_ixT rfl Tryz.underlying22 sh3 rfl rfl e24) ?_
  refine tr tbk 6 (.mk ?_)
  obtain ⟨j25, h2, h1⟩ := bind_e h1
  refine rse (Out := fun y H' => (∃ (a : Unit) (k : Unit), a = j25 ∧ y = .list 1 [[.pt 4 v12 0 0], [.pt 4 v12 0 1], [.pt 4 v12 0 2], [.pt 4 v12 0 3], [.pt 4 v12 0 4], [.pt 4 v12 0 5], [.pt 4 v12 0 6], [.pt 4 v12 0 7], [.pt 4 v12 0 8], [.pt 4 v12 0 9], [.pt 4 v12 0 10]] ∧ H' = hk [(1, ⟨31, 10, true, true, v5, [(GState.av a1)]⟩), (2, ⟨55, 11, true, true, v6, [[int a4.Open, int a4.Bought, int a4.Landed, int a4.Arrived, int a4.Returned, int a4.Sold, int a4.Shipped, int a4.SentBack, int a4.Scrapped, int a4.Lost, int a4.Revalued]]⟩), (3, ⟨31, 10, true, true, v7, [[int 0, int 0, .sc (.slice none 0 0), .sc (.slice none 0 0), .sc (.slice none 0 0), .sc (.slice none 0 0), .sc (.slice none 0 0), .sc (.slice none 0 0), .sc (.slice none 0 0), int 0]]⟩), (4, ⟨55, 11, true, true, v12, [[int x18.1, int x22.1, int x11.Landed, int x11.Arrived, int x11.Returned, int x11.Sold, int x11.Shipped, int x11.SentBack, int x11.Scrapped, int x11.Lost, int x11.Revalued]]⟩)])) rfl rfl rfl (yl_call rfl rfl (.cons rfl .nil) cal133 ?_) ?_
  refine pcw (c := _) Tryz.func133 rfl rfl ?_; intro Q hret hnorm
  refine tc tbk 5 (.mk ?_)
  refine c_drawE [0, 1, 3, 0, 8, 24, 0, 64, 192, 0, 512, 1536, 0, 4096, 12288, 0, 32768, 98304, 0, 262144, 786432, 0, 2097152, 6291456, 0, 16777216, 50331648, 0, 134217728, 402653184, 0, 1073741824, 3221225472, 8589934591, 17179869183] (rl [(1, [4]), (2, [4]), (4, [4]), (5, [4]), (7, [4]), (8, [4]), (10, [4]), (11, [4]), (13, [4]), (14, [4]), (16, [4]), (17, [4]), (19, [4]), (20, [4]), (22, [4]), (23, [4]), (25, [4]), (26, [4]), (28, [4]), (29, [4]), (31, [4]), (32, [4])] []) (fun i => [4]) (fun i => true) [0, 1, 2, 3, 4, 5, 6, 7, 8, 9, 10, 11, 12, 13, 14, 15, 16, 17, 18, 19, 20, 21, 22, 23, 24, 25, 26, 27, 28, 29, 30, 31, 32, 33, 34] mixed (by kernel_rfl) ?_; intro K hK
  refine eM ?_
  refine eN ?_
  refine eF fo55_0 ?_
  refine eM ?_
  refine eN ?_
  refine eF fo55_1 ?_
  refine eM ?_
  refine eN ?_
  refine eF fo55_2 ?_
  refine eM ?_
  refine eN ?_
  refine eF fo55_3 ?_
  refine eM ?_
  refine eN ?_
  refine eF fo55_4 ?_
  refine eM ?_
  refine eN ?_
  refine eF fo55_5 ?_
  refine eM ?_
  refine eN ?_
  refine eF fo55_6 ?_
  refine eM ?_
  refine eN ?_
  refine eF fo55_7 ?_
  refine eM ?_
  refine eN ?_
  refine eF fo55_8 ?_
  refine eM ?_
  refine eN ?_
  refine eF fo55_9 ?_
  refine eM ?_
  refine eN ?_
  refine eF fo55_10 ?_
  refine eP (fun H hH => yv_buildSlice (ps := [(0, _), (1, _), (2, _), (3, _), (4, _), (5, _), (6, _), (7, _), (8, _), (9, _), (10, _)]) (rows := [[.pt 4 v12 0 0], [.pt 4 v12 0 1], [.pt 4 v12 0 2], [.pt 4 v12 0 3], [.pt 4 v12 0 4], [.pt 4 v12 0 5], [.pt 4 v12 0 6], [.pt 4 v12 0 7], [.pt 4 v12 0 8], [.pt 4 v12 0 9], [.pt 4 v12 0 10]]) rfl Tryz.underlying180 bz89 (.cons rfl (.cons rfl (.cons rfl (.cons rfl (.cons rfl (.cons rfl (.cons rfl (.cons rfl (.cons rfl (.cons rfl (.cons rfl .nil))))))))))) (by kernel_rfl) rfl rfl rfl) ?_
  refine eA ?_
  refine de_nil (hK _ ?_)
  obtain rfl := nxt_e h2
  refine w_ret (hret _ _ (hk [(1, ⟨31, 10, true, true, v5, [(GState.av a1)]⟩), (2, ⟨55, 11, true, true, v6, [[int a4.Open, int a4.Bought, int a4.Landed, int a4.Arrived, int a4.Returned, int a4.Sold, int a4.Shipped, int a4.SentBack, int a4.Scrapped, int a4.Lost, int a4.Revalued]]⟩), (3, ⟨31, 10, true, true, v7, [[int 0, int 0, .sc (.slice none 0 0), .sc (.slice none 0 0), .sc (.slice none 0 0), .sc (.slice none 0 0), .sc (.slice none 0 0), .sc (.slice none 0 0), .sc (.slice none 0 0), int 0]]⟩), (4, ⟨55, 11, true, true, v12, [[int x18.1, int x22.1, int x11.Landed, int x11.Arrived, int x11.Returned, int x11.Sold, int x11.Shipped, int x11.SentBack, int x11.Scrapped, int x11.Lost, int x11.Revalued]]⟩)]) (.tmp rfl .nil) (HK.le ⟨rfl, rfl, rfl, rfl, trivial⟩) ?_)
  exact ⟨(), (), rfl, rfl, rfl⟩
  rintro y _ ⟨_, _, rfl, hc, rfl⟩
  subst hc
  refine tr tbk 1 (.mk ?_)
  refine sY (yv_indexAddr (j := 2) rfl Tryz.underlying180 sh89 rfl rfl rfl (.list rfl)) ?_
  refine tr tbk 9 (.mk ?_)
  obtain ⟨x26, e26, h1⟩ := bind_e h1
  refine sC cal134 (d_money_Add_c e26) ?_
  refine tr tbk 10 (.mk ?_)
  refine nb tbk h1 fun x27 h1 => ?_
  refine tr tbk 1 (.mk ?_)
  replace h1 := asrt_e h1
  obtain ⟨rfl, h1⟩ := h1
  refine tc tbk 6 (.mk ?_)
  refine sS ⟨55, 11, true, true, v12, [[int x18.1, int x22.1, int x26.1, int x11.Arrived, int x11.Returned, int x11.Sold, int x11.Shipped, int x11.SentBack, int x11.Scrapped, int x11.Lost, int x11.Revalued]]⟩ sh3 ?_
  refine tr tbk 3 (.mk ?_)
  refine sY (yv_add (r := 3) rfl rfl rfl (by decide)) ?_
  refine tr tbk 5 (.mk ?_)
  refine sY (yv_to (y := boo true) (yv_lss rfl rfl rfl) (congrArg boo (by decide))) ?_
  refine tr tbk 9 (.mk ?_)
  obtain ⟨x28, e28, h1⟩ := bind_e h1
  refine sY (yv_ixT rfl Tryz.underlying22 sh3 rfl rfl e28) ?_
  refine tr tbk 6 (.mk ?_)
  obtain ⟨j29, h2, h1⟩ := bind_e h1
  refine rse (Out := fun y H' => (∃ (a : Unit) (k : Unit), a = j29 ∧ y = .list 1 [[.pt 4 v12 0 0], [.pt 4 v12 0 1], [.pt 4 v12 0 2], [.pt 4 v12 0 3], [.pt 4 v12 0 4], [.pt 4 v12 0 5], [.pt 4 v12 0 6], [.pt 4 v12 0 7], [.pt 4 v12 0 8], [.pt 4 v12 0 9], [.pt 4 v12 0 10]] ∧ H' = hk [(1, ⟨31, 10, true, true, v5, [(GState.av a1)]⟩), (2, ⟨55, 11, true, true, v6, [[int a4.Open, int a4.Bought, int a4.Landed, int a4.Arrived, int a4.Returned, int a4.Sold, int a4.Shipped, int a4.SentBack, int a4.Scrapped, int a4.Lost, int a4.Revalued]]⟩), (3, ⟨31, 10, true, true, v7, [[int 0, int 0, .sc (.slice none 0 0), .sc (.slice none 0 0), .sc (.slice none 0 0), .sc (.slice none 0 0), .sc (.slice none 0 0), .sc (.slice none 0 0), .sc (.slice none 0 0), int 0]]⟩), (4, ⟨55, 11, true, true, v12, [[int x18.1, int x22.1, int x26.1, int x11.Arrived, int x11.Returned, int x11.Sold, int x11.Shipped, int x11.SentBack, int x11.Scrapped, int x11.Lost, int x11.Revalued]]⟩)])) rfl rfl rfl (yl_call rfl rfl (.cons rfl .nil) cal133 ?_) ?_
  refine pcw (c := _) Tryz.func133 rfl rfl ?_; intro Q hret hnorm
  refine tc tbk 5 (.mk ?_)
  refine c_drawE [0, 1, 3, 0, 8, 24, 0, 64, 192, 0, 512, 1536, 0, 4096, 12288, 0, 32768, 98304, 0, 262144, 786432, 0, 2097152, 6291456, 0, 16777216, 50331648, 0, 134217728, 402653184, 0, 1073741824, 3221225472, 8589934591, 17179869183] (rl [(1, [4]), (2, [4]), (4, [4]), (5, [4]), (7, [4]), (8, [4]), (10, [4]), (11, [4]), (13, [4]), (14, [4]), (16, [4]), (17, [4]), (19, [4]), (20, [4]), (22, [4]), (23, [4]), (25, [4]), (26, [4]), (28, [4]), (29, [4]), (31, [4]), (32, [4])] []) (fun i => [4]) (fun i => true) [0, 1, 2, 3, 4, 5, 6, 7, 8, 9, 10, 11, 12, 13, 14, 15, 16, 17, 18, 19, 20, 21, 22, 23, 24, 25, 26, 27, 28, 29, 30, 31, 32, 33, 34] mixed (by kernel_rfl) ?_; intro K hK
  refine eM ?_
  refine eN ?_
  refine eF fo55_0 ?_
  refine eM ?_
  refine eN ?_
  refine eF fo55_1 ?_
  refine eM ?_
  refine eN ?_
  refine eF fo55_2 ?_
  refine eM ?_
  refine eN ?_
  refine eF fo55_3 ?_
  refine eM ?_
  refine eN ?_
  refine eF fo55_4 ?_
  refine eM ?_
  refine eN ?_
  refine eF fo55_5 ?_
  refine eM ?_
  refine eN ?_
  refine eF fo55_6 ?_
  refine eM ?_
  refine eN ?_
  refine eF fo55_7 ?_
  refine eM ?_
  refine eN ?_
  refine eF fo55_8 ?_
  refine eM ?_
  refine eN ?_
  refine eF fo55_9 ?_
  refine eM ?_
  refine eN ?_
  refine eF fo55_10 ?_
  refine eP (fun H hH => yv_buildSlice (ps := [(0, _), (1, _), (2, _), (3, _), (4, _), (5, _), (6, _), (7, _), (8, _), (9, _), (10, _)]) (rows := [[.pt 4 v12 0 0], [.pt 4 v12 0 1], [.pt 4 v12 0 2], [.pt 4 v12 0 3], [.pt 4 v12 0 4], [.pt 4 v12 0 5], [.pt 4 v12 0 6], [.pt 4 v12 0 7], [.pt 4 v12 0 8], [.pt 4 v12 0 9], [.pt 4 v12 0 10]]) rfl Tryz.underlying180 bz89 (.cons rfl (.cons rfl (.cons rfl (.cons rfl (.cons rfl (.cons rfl (.cons rfl (.cons rfl (.cons rfl (.cons rfl (.cons rfl .nil))))))))))) (by kernel_rfl) rfl rfl rfl) ?_
  refine eA ?_
  refine de_nil (hK _ ?_)
  obtain rfl := nxt_e h2
  refine w_ret (hret _ _ (hk [(1, ⟨31, 10, true, true, v5, [(GState.av a1)]⟩), (2, ⟨55, 11, true, true, v6, [[int a4.Open, int a4.Bought, int a4.Landed, int a4.Arrived, int a4.Returned, int a4.Sold, int a4.Shipped, int a4.SentBack, int a4.Scrapped, int a4.Lost, int a4.Revalued]]⟩), (3, ⟨31, 10, true, true, v7, [[int 0, int 0, .sc (.slice none 0 0), .sc (.slice none 0 0), .sc (.slice none 0 0), .sc (.slice none 0 0), .sc (.slice none 0 0), .sc (.slice none 0 0), .sc (.slice none 0 0), int 0]]⟩), (4, ⟨55, 11, true, true, v12, [[int x18.1, int x22.1, int x26.1, int x11.Arrived, int x11.Returned, int x11.Sold, int x11.Shipped, int x11.SentBack, int x11.Scrapped, int x11.Lost, int x11.Revalued]]⟩)]) (.tmp rfl .nil) (HK.le ⟨rfl, rfl, rfl, rfl, trivial⟩) ?_)
  exact ⟨(), (), rfl, rfl, rfl⟩
  rintro y _ ⟨_, _, rfl, hc, rfl⟩
  subst hc
  refine tr tbk 1 (.mk ?_)
  refine sY (yv_indexAddr (j := 3) rfl Tryz.underlying180 sh89 rfl rfl rfl (.list rfl)) ?_
  refine tr tbk 9 (.mk ?_)
  obtain ⟨x30, e30, h1⟩ := bind_e h1
  refine sC cal134 (d_money_Add_c e30) ?_
  refine tr tbk 10 (.mk ?_)
  refine nb tbk h1 fun x31 h1 => ?_
  refine tr tbk 1 (.mk ?_)
  replace h1 := asrt_e h1
  obtain ⟨rfl, h1⟩ := h1
  refine tc tbk 6 (.mk ?_)
  refine sS ⟨55, 11, true, true, v12, [[int x18.1, int x22.1, int x26.1, int x30.1, int x11.Returned, int x11.Sold, int x11.Shipped, int x11.SentBack, int x11.Scrapped, int x11.Lost, int x11.Revalued]]⟩ sh3 ?_
  refine tr tbk 3 (.mk ?_)
  refine sY (yv_add (r := 4) rfl rfl rfl (by decide)) ?_
  refine tr tbk 5 (.mk ?_)
  refine sY (yv_to (y := boo true) (yv_lss rfl rfl rfl) (congrArg boo (by decide))) ?_
  refine tr tbk 9 (.mk ?_)
  obtain ⟨x32, e32, h1⟩ := bind_e h1
  refine sY (yv_ixT rfl Tryz.underlying22 sh3 rfl rfl e32) ?_
  refine tr tbk 6 (.mk ?_)
  obtain ⟨j33, h2, h1⟩ := bind_e h1
  refine rse (Out := fun y H' => (∃ (a : Unit) (k : Unit), a = j33 ∧ y = .list 1 [[.pt 4 v12 0 0], [.pt 4 v12 0 1], [.pt 4 v12 0 2], [.pt 4 v12 0 3], [.pt 4 v12 0 4], [.pt 4 v12 0 5], [.pt 4 v12 0 6], [.pt 4 v12 0 7], [.pt 4 v12 0 8], [.pt 4 v12 0 9], [.pt 4 v12 0 10]] ∧ H' = hk [(1, ⟨31, 10, true, true, v5, [(GState.av a1)]⟩), (2, ⟨55, 11, true, true, v6, [[int a4.Open, int a4.Bought, int a4.Landed, int a4.Arrived, int a4.Returned, int a4.Sold, int a4.Shipped, int a4.SentBack, int a4.Scrapped, int a4.Lost, int a4.Revalued]]⟩), (3, ⟨31, 10, true, true, v7, [[int 0, int 0, .sc (.slice none 0 0), .sc (.slice none 0 0), .sc (.slice none 0 0), .sc (.slice none 0 0), .sc (.slice none 0 0), .sc (.slice none 0 0), .sc (.slice none 0 0), int 0]]⟩), (4, ⟨55, 11, true, true, v12, [[int x18.1, int x22.1, int x26.1, int x30.1, int x11.Returned, int x11.Sold, int x11.Shipped, int x11.SentBack, int x11.Scrapped, int x11.Lost, int x11.Revalued]]⟩)])) rfl rfl rfl (yl_call rfl rfl (.cons rfl .nil) cal133 ?_) ?_
  refine pcw (c := _) Tryz.func133 rfl rfl ?_; intro Q hret hnorm
  refine tc tbk 5 (.mk ?_)
  refine c_drawE [0, 1, 3, 0, 8, 24, 0, 64, 192, 0, 512, 1536, 0, 4096, 12288, 0, 32768, 98304, 0, 262144, 786432, 0, 2097152, 6291456, 0, 16777216, 50331648, 0, 134217728, 402653184, 0, 1073741824, 3221225472, 8589934591, 17179869183] (rl [(1, [4]), (2, [4]), (4, [4]), (5, [4]), (7, [4]), (8, [4]), (10, [4]), (11, [4]), (13, [4]), (14, [4]), (16, [4]), (17, [4]), (19, [4]), (20, [4]), (22, [4]), (23, [4]), (25, [4]), (26, [4]), (28, [4]), (29, [4]), (31, [4]), (32, [4])] []) (fun i => [4]) (fun i => true) [0, 1, 2, 3, 4, 5, 6, 7, 8, 9, 10, 11, 12, 13, 14, 15, 16, 17, 18, 19, 20, 21, 22, 23, 24, 25, 26, 27, 28, 29, 30, 31, 32, 33, 34] mixed (by kernel_rfl) ?_; intro K hK
  refine eM ?_
  refine eN ?_
  refine eF fo55_0 ?_
  refine eM ?_
  refine eN ?_
  refine eF fo55_1 ?_
  refine eM ?_
  refine eN ?_
  refine eF fo55_2 ?_
  refine eM ?_
  refine eN ?_
  refine eF fo55_3 ?_
  refine eM ?_
  refine eN ?_
  refine eF fo55_4 ?_
  refine eM ?_
  refine eN ?_
  refine eF fo55_5 ?_
  refine eM ?_
  refine eN ?_
  refine eF fo55_6 ?_
  refine eM ?_
  refine eN ?_
  refine eF fo55_7 ?_
  refine eM ?_
  refine eN ?_
  refine eF fo55_8 ?_
  refine eM ?_
  refine eN ?_
  refine eF fo55_9 ?_
  refine eM ?_
  refine eN ?_
  refine eF fo55_10 ?_
  refine eP (fun H hH => yv_buildSlice (ps := [(0, _), (1, _), (2, _), (3, _), (4, _), (5, _), (6, _), (7, _), (8, _), (9, _), (10, _)]) (rows := [[.pt 4 v12 0 0], [.pt 4 v12 0 1], [.pt 4 v12 0 2], [.pt 4 v12 0 3], [.pt 4 v12 0 4], [.pt 4 v12 0 5], [.pt 4 v12 0 6], [.pt 4 v12 0 7], [.pt 4 v12 0 8], [.pt 4 v12 0 9], [.pt 4 v12 0 10]]) rfl Tryz.underlying180 bz89 (.cons rfl (.cons rfl (.cons rfl (.cons rfl (.cons rfl (.cons rfl (.cons rfl (.cons rfl (.cons rfl (.cons rfl (.cons rfl .nil))))))))))) (by kernel_rfl) rfl rfl rfl) ?_
  refine eA ?_
  refine de_nil (hK _ ?_)
  obtain rfl := nxt_e h2
  refine w_ret (hret _ _ (hk [(1, ⟨31, 10, true, true, v5, [(GState.av a1)]⟩), (2, ⟨55, 11, true, true, v6, [[int a4.Open, int a4.Bought, int a4.Landed, int a4.Arrived, int a4.Returned, int a4.Sold, int a4.Shipped, int a4.SentBack, int a4.Scrapped, int a4.Lost, int a4.Revalued]]⟩), (3, ⟨31, 10, true, true, v7, [[int 0, int 0, .sc (.slice none 0 0), .sc (.slice none 0 0), .sc (.slice none 0 0), .sc (.slice none 0 0), .sc (.slice none 0 0), .sc (.slice none 0 0), .sc (.slice none 0 0), int 0]]⟩), (4, ⟨55, 11, true, true, v12, [[int x18.1, int x22.1, int x26.1, int x30.1, int x11.Returned, int x11.Sold, int x11.Shipped, int x11.SentBack, int x11.Scrapped, int x11.Lost, int x11.Revalued]]⟩)]) (.tmp rfl .nil) (HK.le ⟨rfl, rfl, rfl, rfl, trivial⟩) ?_)
  exact ⟨(), (), rfl, rfl, rfl⟩
  rintro y _ ⟨_, _, rfl, hc, rfl⟩
  subst hc
  refine tr tbk 1 (.mk ?_)
  refine sY (yv_indexAddr (j := 4) rfl Tryz.underlying180 sh89 rfl rfl rfl (.list rfl)) ?_
  refine tr tbk 9 (.mk ?_)
  obtain ⟨x34, e34, h1⟩ := bind_e h1
  refine sC cal134 (d_money_Add_c e34) ?_
  refine tr tbk 10 (.mk ?_)
  refine nb tbk h1 fun x35 h1 => ?_
  refine tr tbk 1 (.mk ?_)
  replace h1 := asrt_e h1
  obtain ⟨rfl, h1⟩ := h1
  refine tc tbk 6 (.mk ?_)
  refine sS ⟨55, 11, true, true, v12, [[int x18.1, int x22.1, int x26.1, int x30.1, int x34.1, int x11.Sold, int x11.Shipped, int x11.SentBack, int x11.Scrapped, int x11.Lost, int x11.Revalued]]⟩ sh3 ?_
  refine tr tbk 3 (.mk ?_)
  refine sY (yv_add (r := 5) rfl rfl rfl (by decide)) ?_
  refine tr tbk 5 (.mk ?_)
  refine sY (yv_to (y := boo true) (yv_lss rfl rfl rfl) (congrArg boo (by decide))) ?_
  refine tr tbk 9 (.mk ?_)
  obtain ⟨x36, e36, h1⟩ := bind_e h1
  refine sY (yv_ixT rfl Tryz.underlying22 sh3 rfl rfl e36) ?_
  refine tr tbk 6 (.mk ?_)
  obtain ⟨j37, h2, h1⟩ := bind_e h1
  refine rse (Out := fun y H' => (∃ (a : Unit) (k : Unit), a = j37 ∧ y = .list 1 [[.pt 4 v12 0 0], [.pt 4 v12 0 1], [.pt 4 v12 0 2], [.pt 4 v12 0 3], [.pt 4 v12 0 4], [.pt 4 v12 0 5], [.pt 4 v12 0 6], [.pt 4 v12 0 7], [.pt 4 v12 0 8], [.pt 4 v12 0 9], [.pt 4 v12 0 10]] ∧ H' = hk [(1, ⟨31, 10, true, true, v5, [(GState.av a1)]⟩), (2, ⟨55, 11, true, true, v6, [[int a4.Open, int a4.Bought, int a4.Landed, int a4.Arrived, int a4.Returned, int a4.Sold, int a4.Shipped, int a4.SentBack, int a4.Scrapped, int a4.Lost, int a4.Revalued]]⟩), (3, ⟨31, 10, true, true, v7, [[int 0, int 0, .sc (.slice none 0 0), .sc (.slice none 0 0), .sc (.slice none 0 0), .sc (.slice none 0 0), .sc (.slice none 0 0), .sc (.slice none 0 0), .sc (.slice none 0 0), int 0]]⟩), (4, ⟨55, 11, true, true, v12, [[int x18.1, int x22.1, int x26.1, int x30.1, int x34.1, int x11.Sold, int x11.Shipped, int x11.SentBack, int x11.Scrapped, int x11.Lost, int x11.Revalued]]⟩)])) rfl rfl rfl (yl_call rfl rfl (.cons rfl .nil) cal133 ?_) ?_
  refine pcw (c := _) Tryz.func133 rfl rfl ?_; intro Q hret hnorm
  refine tc tbk 5 (.mk ?_)
  refine c_drawE [0, 1, 3, 0, 8, 24, 0, 64, 192, 0, 512, 1536, 0, 4096, 12288, 0, 32768, 98304, 0, 262144, 786432, 0, 2097152, 6291456, 0, 16777216, 50331648, 0, 134217728, 402653184, 0, 1073741824, 3221225472, 8589934591, 17179869183] (rl [(1, [4]), (2, [4]), (4, [4]), (5, [4]), (7, [4]), (8, [4]), (10, [4]), (11, [4]), (13, [4]), (14, [4]), (16, [4]), (17, [4]), (19, [4]), (20, [4]), (22, [4]), (23, [4]), (25, [4]), (26, [4]), (28, [4]), (29, [4]), (31, [4]), (32, [4])] []) (fun i => [4]) (fun i => true) [0, 1, 2, 3, 4, 5, 6, 7, 8, 9, 10, 11, 12, 13, 14, 15, 16, 17, 18, 19, 20, 21, 22, 23, 24, 25, 26, 27, 28, 29, 30, 31, 32, 33, 34] mixed (by kernel_rfl) ?_; intro K hK
  refine eM ?_
  refine eN ?_
  refine eF fo55_0 ?_
  refine eM ?_
  refine eN ?_
  refine eF fo55_1 ?_
  refine eM ?_
  refine eN ?_
  refine eF fo55_2 ?_
  refine eM ?_
  refine eN ?_
  refine eF fo55_3 ?_
  refine eM ?_
  refine eN ?_
  refine eF fo55_4 ?_
  refine eM ?_
  refine eN ?_
  refine eF fo55_5 ?_
  refine eM ?_
  refine eN ?_
  refine eF fo55_6 ?_
  refine eM ?_
  refine eN ?_
  refine eF fo55_7 ?_
  refine eM ?_
  refine eN ?_
  refine eF fo55_8 ?_
  refine eM ?_
  refine eN ?_
  refine eF fo55_9 ?_
  refine eM ?_
  refine eN ?_
  refine eF fo55_10 ?_
  refine eP (fun H hH => yv_buildSlice (ps := [(0, _), (1, _), (2, _), (3, _), (4, _), (5, _), (6, _), (7, _), (8, _), (9, _), (10, _)]) (rows := [[.pt 4 v12 0 0], [.pt 4 v12 0 1], [.pt 4 v12 0 2], [.pt 4 v12 0 3], [.pt 4 v12 0 4], [.pt 4 v12 0 5], [.pt 4 v12 0 6], [.pt 4 v12 0 7], [.pt 4 v12 0 8], [.pt 4 v12 0 9], [.pt 4 v12 0 10]]) rfl Tryz.underlying180 bz89 (.cons rfl (.cons rfl (.cons rfl (.cons rfl (.cons rfl (.cons rfl (.cons rfl (.cons rfl (.cons rfl (.cons rfl (.cons rfl .nil))))))))))) (by kernel_rfl) rfl rfl rfl) ?_
  refine eA ?_
  refine de_nil (hK _ ?_)
  obtain rfl := nxt_e h2
  refine w_ret (hret _ _ (hk [(1, ⟨31, 10, true, true, v5, [(GState.av a1)]⟩), (2, ⟨55, 11, true, true, v6, [[int a4.Open, int a4.Bought, int a4.Landed, int a4.Arrived, int a4.Returned, int a4.Sold, int a4.Shipped, int a4.SentBack, int a4.Scrapped, int a4.Lost, int a4.Revalued]]⟩), (3, ⟨31, 10, true, true, v7, [[int 0, int 0, .sc (.slice none 0 0), .sc (.slice none 0 0), .sc (.slice none 0 0), .sc (.slice none 0 0), .sc (.slice none 0 0), .sc (.slice none 0 0), .sc (.slice none 0 0), int 0]]⟩), (4, ⟨55, 11, true, true, v12, [[int x18.1, int x22.1, int x26.1, int x30.1, int x34.1, int x11.Sold, int x11.Shipped, int x11.SentBack, int x11.Scrapped, int x11.Lost, int x11.Revalued]]⟩)]) (.tmp rfl .nil) (HK.le ⟨rfl, rfl, rfl, rfl, trivial⟩) ?_)
  exact ⟨(), (), rfl, rfl, rfl⟩
  rintro y _ ⟨_, _, rfl, hc, rfl⟩
  subst hc
  refine tr tbk 1 (.mk ?_)
  refine sY (yv_indexAddr (j := 5) rfl Tryz.underlying180 sh89 rfl rfl rfl (.list rfl)) ?_
  refine tr tbk 9 (.mk ?_)
  obtain ⟨x38, e38, h1⟩ := bind_e h1
  refine sC cal134 (d_money_Add_c e38) ?_
  refine tr tbk 10 (.mk ?_)
  refine nb tbk h1 fun x39 h1 => ?_
  refine tr tbk 1 (.mk ?_)
  replace h1 := asrt_e h1
  obtain ⟨rfl, h1⟩ := h1
  refine tc tbk 6 (.mk ?_)
  refine sS ⟨55, 11, true, true, v12, [[int x18.1, int x22.1, int x26.1, int x30.1, int x34.1, int x38.1, int x11.Shipped, int x11.SentBack, int x11.Scrapped, int x11.Lost, int x11.Revalued]]⟩ sh3 ?_
  refine tr tbk 3 (.mk ?_)
  refine sY (yv_add (r := 6) rfl rfl rfl (by decide)) ?_
  refine tr tbk 5 (.mk ?_)
  refine sY (yv_to (y := boo true) (yv_lss rfl rfl rfl) (congrArg boo (by decide))) ?_
  refine tr tbk 9 (.mk ?_)
  obtain ⟨x40, e40, h1⟩ := bind_e h1
  refine sY (yv_ixT rfl Tryz.underlying22 sh3 rfl rfl e40) ?_
  refine tr tbk 6 (.mk ?_)
  obtain ⟨j41, h2, h1⟩ := bind_e h1
  refine rse (Out := fun y H' => (∃ (a : Unit) (k : Unit), a = j41 ∧ y = .list 1 [[.pt 4 v12 0 0], [.pt 4 v12 0 1], [.pt 4 v12 0 2], [.pt 4 v12 0 3], [.pt 4 v12 0 4], [.pt 4 v12 0 5], [.pt 4 v12 0 6], [.pt 4 v12 0 7], [.pt 4 v12 0 8], [.pt 4 v12 0 9], [.pt 4 v12 0 10]] ∧ H' = hk [(1, ⟨31, 10, true, true, v5, [(GState.av a1)]⟩), (2, ⟨55, 11, true, true, v6, [[int a4.Open, int a4.Bought, int a4.Landed, int a4.Arrived, int a4.Returned, int a4.Sold, int a4.Shipped, int a4.SentBack, int a4.Scrapped, int a4.Lost, int a4.Revalued]]⟩), (3, ⟨31, 10, true, true, v7, [[int 0, int 0, .sc (.slice none 0 0), .sc (.slice none 0 0), .sc (.slice none 0 0), .sc (.slice none 0 0), .sc (.slice none 0 0), .sc (.slice none 0 0), .sc (.slice none 0 0), int 0]]⟩), (4, ⟨55, 11, true, true, v12, [[int x18.1, int x22.1, int x26.1, int x30.1, int x34.1, int x38.1, int x11.Shipped, int x11.SentBack, int x11.Scrapped, int x11.Lost, int x11.Revalued]]⟩)])) rfl rfl rfl (yl_call rfl rfl (.cons rfl .nil) cal133 ?_) ?_
  refine pcw (c := _) Tryz.func133 rfl rfl ?_; intro Q hret hnorm
  refine tc tbk 5 (.mk ?_)
  refine c_drawE [0, 1, 3, 0, 8, 24, 0, 64, 192, 0, 512, 1536, 0, 4096, 12288, 0, 32768, 98304, 0, 262144, 786432, 0, 2097152, 6291456, 0, 16777216, 50331648, 0, 134217728, 402653184, 0, 1073741824, 3221225472, 8589934591, 17179869183] (rl [(1, [4]), (2, [4]), (4, [4]), (5, [4]), (7, [4]), (8, [4]), (10, [4]), (11, [4]), (13, [4]), (14, [4]), (16, [4]), (17, [4]), (19, [4]), (20, [4]), (22, [4]), (23, [4]), (25, [4]), (26, [4]), (28, [4]), (29, [4]), (31, [4]), (32, [4])] []) (fun i => [4]) (fun i => true) [0, 1, 2, 3, 4, 5, 6, 7, 8, 9, 10, 11, 12, 13, 14, 15, 16, 17, 18, 19, 20, 21, 22, 23, 24, 25, 26, 27, 28, 29, 30, 31, 32, 33, 34] mixed (by kernel_rfl) ?_; intro K hK
  refine eM ?_
  refine eN ?_
  refine eF fo55_0 ?_
  refine eM ?_
  refine eN ?_
  refine eF fo55_1 ?_
  refine eM ?_
  refine eN ?_
  refine eF fo55_2 ?_
  refine eM ?_
  refine eN ?_
  refine eF fo55_3 ?_
  refine eM ?_
  refine eN ?_
  refine eF fo55_4 ?_
  refine eM ?_
  refine eN ?_
  refine eF fo55_5 ?_
  refine eM ?_
  refine eN ?_
  refine eF fo55_6 ?_
  refine eM ?_
  refine eN ?_
  refine eF fo55_7 ?_
  refine eM ?_
  refine eN ?_
  refine eF fo55_8 ?_
  refine eM ?_
  refine eN ?_
  refine eF fo55_9 ?_
  refine eM ?_
  refine eN ?_
  refine eF fo55_10 ?_
  refine eP (fun H hH => yv_buildSlice (ps := [(0, _), (1, _), (2, _), (3, _), (4, _), (5, _), (6, _), (7, _), (8, _), (9, _), (10, _)]) (rows := [[.pt 4 v12 0 0], [.pt 4 v12 0 1], [.pt 4 v12 0 2], [.pt 4 v12 0 3], [.pt 4 v12 0 4], [.pt 4 v12 0 5], [.pt 4 v12 0 6], [.pt 4 v12 0 7], [.pt 4 v12 0 8], [.pt 4 v12 0 9], [.pt 4 v12 0 10]]) rfl Tryz.underlying180 bz89 (.cons rfl (.cons rfl (.cons rfl (.cons rfl (.cons rfl (.cons rfl (.cons rfl (.cons rfl (.cons rfl (.cons rfl (.cons rfl .nil))))))))))) (by kernel_rfl) rfl rfl rfl) ?_
  refine eA ?_
  refine de_nil (hK _ ?_)
  obtain rfl := nxt_e h2
  refine w_ret (hret _ _ (hk [(1, ⟨31, 10, true, true, v5, [(GState.av a1)]⟩), (2, ⟨55, 11, true, true, v6, [[int a4.Open, int a4.Bought, int a4.Landed, int a4.Arrived, int a4.Returned, int a4.Sold, int a4.Shipped, int a4.SentBack, int a4.Scrapped, int a4.Lost, int a4.Revalued]]⟩), (3, ⟨31, 10, true, true, v7, [[int 0, int 0, .sc (.slice none 0 0), .sc (.slice none 0 0), .sc (.slice none 0 0), .sc (.slice none 0 0), .sc (.slice none 0 0), .sc (.slice none 0 0), .sc (.slice none 0 0), int 0]]⟩), (4, ⟨55, 11, true, true, v12, [[int x18.1, int x22.1, int x26.1, int x30.1, int x34.1, int x38.1, int x11.Shipped, int x11.SentBack, int x11.Scrapped, int x11.Lost, int x11.Revalued]]⟩)]) (.tmp rfl .nil) (HK.le ⟨rfl, rfl, rfl, rfl, trivial⟩) ?_)
  exact ⟨(), (), rfl, rfl, rfl⟩
  rintro y _ ⟨_, _, rfl, hc, rfl⟩
  subst hc
  refine tr tbk 1 (.mk ?_)
  refine sY (yv_indexAddr (j := 6) rfl Tryz.underlying180 sh89 rfl rfl rfl (.list rfl)) ?_
  refine tr tbk 9 (.mk ?_)
  obtain ⟨x42, e42, h1⟩ := bind_e h1
  refine sC cal134 (d_money_Add_c e42) ?_
  refine tr tbk 10 (.mk ?_)
  refine nb tbk h1 fun x43 h1 => ?_
  refine tr tbk 1 (.mk ?_)
  replace h1 := asrt_e h1
  obtain ⟨rfl, h1⟩ := h1
  refine tc tbk 6 (.mk ?_)
  refine sS ⟨55, 11, true, true, v12, [[int x18.1, int x22.1, int x26.1, int x30.1, int x34.1, int x38.1, int x42.1, int x11.SentBack, int x11.Scrapped, int x11.Lost, int x11.Revalued]]⟩ sh3 ?_
  refine tr tbk 3 (.mk ?_)
  refine sY (yv_add (r := 7) rfl rfl rfl (by decide)) ?_
  refine tr tbk 5 (.mk ?_)
  refine sY (yv_to (y := boo true) (yv_lss rfl rfl rfl) (congrArg boo (by decide))) ?_
  refine tr tbk 9 (.mk ?_)
  obtain ⟨x44, e44, h1⟩ := bind_e h1
  refine sY (yv_ixT rfl Tryz.underlying22 sh3 rfl rfl e44) ?_
  refine tr tbk 6 (.mk ?_)
  obtain ⟨j45, h2, h1⟩ := bind_e h1
  refine rse (Out := fun y H' => (∃ (a : Unit) (k : Unit), a = j45 ∧ y = .list 1 [[.pt 4 v12 0 0], [.pt 4 v12 0 1], [.pt 4 v12 0 2], [.pt 4 v12 0 3], [.pt 4 v12 0 4], [.pt 4 v12 0 5], [.pt 4 v12 0 6], [.pt 4 v12 0 7], [.pt 4 v12 0 8], [.pt 4 v12 0 9], [.pt 4 v12 0 10]] ∧ H' = hk [(1, ⟨31, 10, true, true, v5, [(GState.av a1)]⟩), (2, ⟨55, 11, true, true, v6, [[int a4.Open, int a4.Bought, int a4.Landed, int a4.Arrived, int a4.Returned, int a4.Sold, int a4.Shipped, int a4.SentBack, int a4.Scrapped, int a4.Lost, int a4.Revalued]]⟩), (3, ⟨31, 10, true, true, v7, [[int 0, int 0, .sc (.slice none 0 0), .sc (.slice none 0 0), .sc (.slice none 0 0), .sc (.slice none 0 0), .sc (.slice none 0 0), .sc (.slice none 0 0), .sc (.slice none 0 0), int 0]]⟩), (4, ⟨55, 11, true, true, v12, [[int x18.1, int x22.1, int x26.1, int x30.1, int x34.1, int x38.1, int x42.1, int x11.SentBack, int x11.Scrapped, int x11.Lost, int x11.Revalued]]⟩)])) rfl rfl rfl (yl_call rfl rfl (.cons rfl .nil) cal133 ?_) ?_
  refine pcw (c := _) Tryz.func133 rfl rfl ?_; intro Q hret hnorm
  refine tc tbk 5 (.mk ?_)
  refine c_drawE [0, 1, 3, 0, 8, 24, 0, 64, 192, 0, 512, 1536, 0, 4096, 12288, 0, 32768, 98304, 0, 262144, 786432, 0, 2097152, 6291456, 0, 16777216, 50331648, 0, 134217728, 402653184, 0, 1073741824, 3221225472, 8589934591, 17179869183] (rl [(1, [4]), (2, [4]), (4, [4]), (5, [4]), (7, [4]), (8, [4]), (10, [4]), (11, [4]), (13, [4]), (14, [4]), (16, [4]), (17, [4]), (19, [4]), (20, [4]), (22, [4]), (23, [4]), (25, [4]), (26, [4]), (28, [4]), (29, [4]), (31, [4]), (32, [4])] []) (fun i => [4]) (fun i => true) [0, 1, 2, 3, 4, 5, 6, 7, 8, 9, 10, 11, 12, 13, 14, 15, 16, 17, 18, 19, 20, 21, 22, 23, 24, 25, 26, 27, 28, 29, 30, 31, 32, 33, 34] mixed (by kernel_rfl) ?_; intro K hK
  refine eM ?_
  refine eN ?_
  refine eF fo55_0 ?_
  refine eM ?_
  refine eN ?_
  refine eF fo55_1 ?_
  refine eM ?_
  refine eN ?_
  refine eF fo55_2 ?_
  refine eM ?_
  refine eN ?_
  refine eF fo55_3 ?_
  refine eM ?_
  refine eN ?_
  refine eF fo55_4 ?_
  refine eM ?_
  refine eN ?_
  refine eF fo55_5 ?_
  refine eM ?_
  refine eN ?_
  refine eF fo55_6 ?_
  refine eM ?_
  refine eN ?_
  refine eF fo55_7 ?_
  refine eM ?_
  refine eN ?_
  refine eF fo55_8 ?_
  refine eM ?_
  refine eN ?_
  refine eF fo55_9 ?_
  refine eM ?_
  refine eN ?_
  refine eF fo55_10 ?_
  refine eP (fun H hH => yv_buildSlice (ps := [(0, _), (1, _), (2, _), (3, _), (4, _), (5, _), (6, _), (7, _), (8, _), (9, _), (10, _)]) (rows := [[.pt 4 v12 0 0], [.pt 4 v12 0 1], [.pt 4 v12 0 2], [.pt 4 v12 0 3], [.pt 4 v12 0 4], [.pt 4 v12 0 5], [.pt 4 v12 0 6], [.pt 4 v12 0 7], [.pt 4 v12 0 8], [.pt 4 v12 0 9], [.pt 4 v12 0 10]]) rfl Tryz.underlying180 bz89 (.cons rfl (.cons rfl (.cons rfl (.cons rfl (.cons rfl (.cons rfl (.cons rfl (.cons rfl (.cons rfl (.cons rfl (.cons rfl .nil))))))))))) (by kernel_rfl) rfl rfl rfl) ?_
  refine eA ?_
  refine de_nil (hK _ ?_)
  obtain rfl := nxt_e h2
  refine w_ret (hret _ _ (hk [(1, ⟨31, 10, true, true, v5, [(GState.av a1)]⟩), (2, ⟨55, 11, true, true, v6, [[int a4.Open, int a4.Bought, int a4.Landed, int a4.Arrived, int a4.Returned, int a4.Sold, int a4.Shipped, int a4.SentBack, int a4.Scrapped, int a4.Lost, int a4.Revalued]]⟩), (3, ⟨31, 10, true, true, v7, [[int 0, int 0, .sc (.slice none 0 0), .sc (.slice none 0 0), .sc (.slice none 0 0), .sc (.slice none 0 0), .sc (.slice none 0 0), .sc (.slice none 0 0), .sc (.slice none 0 0), int 0]]⟩), (4, ⟨55, 11, true, true, v12, [[int x18.1, int x22.1, int x26.1, int x30.1, int x34.1, int x38.1, int x42.1, int x11.SentBack, int x11.Scrapped, int x11.Lost, int x11.Revalued]]⟩)]) (.tmp rfl .nil) (HK.le ⟨rfl, rfl, rfl, rfl, trivial⟩) ?_)
  exact ⟨(), (), rfl, rfl, rfl⟩
  rintro y _ ⟨_, _, rfl, hc, rfl⟩
  subst hc
  refine tr tbk 1 (.mk ?_)
  refine sY (yv_indexAddr (j := 7) rfl Tryz.underlying180 sh89 rfl rfl rfl (.list rfl)) ?_
  refine tr tbk 9 (.mk ?_)
  obtain ⟨x46, e46, h1⟩ := bind_e h1
  refine sC cal134 (d_money_Add_c e46) ?_
  refine tr tbk 10 (.mk ?_)
  refine nb tbk h1 fun x47 h1 => ?_
  refine tr tbk 1 (.mk ?_)
  replace h1 := asrt_e h1
  obtain ⟨rfl, h1⟩ := h1
  refine tc tbk 6 (.mk ?_)
  refine sS ⟨55, 11, true, true, v12, [[int x18.1, int x22.1, int x26.1, int x30.1, int x34.1, int x38.1, int x42.1, int x46.1, int x11.Scrapped, int x11.Lost, int x11.Revalued]]⟩ sh3 ?_
  refine tr tbk 3 (.mk ?_)
  refine sY (yv_add (r := 8) rfl rfl rfl (by decide)) ?_
  refine tr tbk 5 (.mk ?_)
  refine sY (yv_to (y := boo true) (yv_lss rfl rfl rfl) (congrArg boo (by decide))) ?_
  refine tr tbk 9 (.mk ?_)
  obtain ⟨x48, e48, h1⟩ := bind_e h1
  refine sY (yv_ixT rfl Tryz.underlying22 sh3 rfl rfl e48) ?_
  refine tr tbk 6 (.mk ?_)
  obtain ⟨j49, h2, h1⟩ := bind_e h1
  refine rse (Out := fun y H' => (∃ (a : Unit) (k : Unit), a = j49 ∧ y = .list 1 [[.pt 4 v12 0 0], [.pt 4 v12 0 1], [.pt 4 v12 0 2], [.pt 4 v12 0 3], [.pt 4 v12 0 4], [.pt 4 v12 0 5], [.pt 4 v12 0 6], [.pt 4 v12 0 7], [.pt 4 v12 0 8], [.pt 4 v12 0 9], [.pt 4 v12 0 10]] ∧ H' = hk [(1, ⟨31, 10, true, true, v5, [(GState.av a1)]⟩), (2, ⟨55, 11, true, true, v6, [[int a4.Open, int a4.Bought, int a4.Landed, int a4.Arrived, int a4.Returned, int a4.Sold, int a4.Shipped, int a4.SentBack, int a4.Scrapped, int a4.Lost, int a4.Revalued]]⟩), (3, ⟨31, 10, true, true, v7, [[int 0, int 0, .sc (.slice none 0 0), .sc (.slice none 0 0), .sc (.slice none 0 0), .sc (.slice none 0 0), .sc (.slice none 0 0), .sc (.slice none 0 0), .sc (.slice none 0 0), int 0]]⟩), (4, ⟨55, 11, true, true, v12, [[int x18.1, int x22.1, int x26.1, int x30.1, int x34.1, int x38.1, int x42.1, int x46.1, int x11.Scrapped, int x11.Lost, int x11.Revalued]]⟩)])) rfl rfl rfl (yl_call rfl rfl (.cons rfl .nil) cal133 ?_) ?_
  refine pcw (c := _) Tryz.func133 rfl rfl ?_; intro Q hret hnorm
  refine tc tbk 5 (.mk ?_)
  refine c_drawE [0, 1, 3, 0, 8, 24, 0, 64, 192, 0, 512, 1536, 0, 4096, 12288, 0, 32768, 98304, 0, 262144, 786432, 0, 2097152, 6291456, 0, 16777216, 50331648, 0, 134217728, 402653184, 0, 1073741824, 3221225472, 8589934591, 17179869183] (rl [(1, [4]), (2, [4]), (4, [4]), (5, [4]), (7, [4]), (8, [4]), (10, [4]), (11, [4]), (13, [4]), (14, [4]), (16, [4]), (17, [4]), (19, [4]), (20, [4]), (22, [4]), (23, [4]), (25, [4]), (26, [4]), (28, [4]), (29, [4]), (31, [4]), (32, [4])] []) (fun i => [4]) (fun i => true) [0, 1, 2, 3, 4, 5, 6, 7, 8, 9, 10, 11, 12, 13, 14, 15, 16, 17, 18, 19, 20, 21, 22, 23, 24, 25, 26, 27, 28, 29, 30, 31, 32, 33, 34] mixed (by kernel_rfl) ?_; intro K hK
  refine eM ?_
  refine eN ?_
  refine eF fo55_0 ?_
  refine eM ?_
  refine eN ?_
  refine eF fo55_1 ?_
  refine eM ?_
  refine eN ?_
  refine eF fo55_2 ?_
  refine eM ?_
  refine eN ?_
  refine eF fo55_3 ?_
  refine eM ?_
  refine eN ?_
  refine eF fo55_4 ?_
  refine eM ?_
  refine eN ?_
  refine eF fo55_5 ?_
  refine eM ?_
  refine eN ?_
  refine eF fo55_6 ?_
  refine eM ?_
  refine eN ?_
  refine eF fo55_7 ?_
  refine eM ?_
  refine eN ?_
  refine eF fo55_8 ?_
  refine eM ?_
  refine eN ?_
  refine eF fo55_9 ?_
  refine eM ?_
  refine eN ?_
  refine eF fo55_10 ?_
  refine eP (fun H hH => yv_buildSlice (ps := [(0, _), (1, _), (2, _), (3, _), (4, _), (5, _), (6, _), (7, _), (8, _), (9, _), (10, _)]) (rows := [[.pt 4 v12 0 0], [.pt 4 v12 0 1], [.pt 4 v12 0 2], [.pt 4 v12 0 3], [.pt 4 v12 0 4], [.pt 4 v12 0 5], [.pt 4 v12 0 6], [.pt 4 v12 0 7], [.pt 4 v12 0 8], [.pt 4 v12 0 9], [.pt 4 v12 0 10]]) rfl Tryz.underlying180 bz89 (.cons rfl (.cons rfl (.cons rfl (.cons rfl (.cons rfl (.cons rfl (.cons rfl (.cons rfl (.cons rfl (.cons rfl (.cons rfl .nil))))))))))) (by kernel_rfl) rfl rfl rfl) ?_
  refine eA ?_
  refine de_nil (hK _ ?_)
  obtain rfl := nxt_e h2
  refine w_ret (hret _ _ (hk [(1, ⟨31, 10, true, true, v5, [(GState.av a1)]⟩), (2, ⟨55, 11, true, true, v6, [[int a4.Open, int a4.Bought, int a4.Landed, int a4.Arrived, int a4.Returned, int a4.Sold, int a4.Shipped, int a4.SentBack, int a4.Scrapped, int a4.Lost, int a4.Revalued]]⟩), (3, ⟨31, 10, true, true, v7, [[int 0, int 0, .sc (.slice none 0 0), .sc (.slice none 0 0), .sc (.slice none 0 0), .sc (.slice none 0 0), .sc (.slice none 0 0), .sc (.slice none 0 0), .sc (.slice none 0 0), int 0]]⟩), (4, ⟨55, 11, true, true, v12, [[int x18.1, int x22.1, int x26.1, int x30.1, int x34.1, int x38.1, int x42.1, int x46.1, int x11.Scrapped, int x11.Lost, int x11.Revalued]]⟩)]) (.tmp rfl .nil) (HK.le ⟨rfl, rfl, rfl, rfl, trivial⟩) ?_)
  exact ⟨(), (), rfl, rfl, rfl⟩
  rintro y _ ⟨_, _, rfl, hc, rfl⟩
  subst hc
  refine tr tbk 1 (.mk ?_)
  refine sY (yv_indexAddr (j := 8) rfl Tryz.underlying180 sh89 rfl rfl rfl (.list rfl)) ?_
  refine tr tbk 9 (.mk ?_)
  obtain ⟨x50, e50, h1⟩ := bind_e h1
  refine sC cal134 (d_money_Add_c e50) ?_
  refine tr tbk 10 (.mk ?_)
  refine nb tbk h1 fun x51 h1 => ?_
  refine tr tbk 1 (.mk ?_)
  replace h1 := asrt_e h1
  obtain ⟨rfl, h1⟩ := h1
  refine tc tbk 6 (.mk ?_)
  refine sS ⟨55, 11, true, true, v12, [[int x18.1, int x22.1, int x26.1, int x30.1, int x34.1, int x38.1, int x42.1, int x46.1, int x50.1, int x11.Lost, int x11.Revalued]]⟩ sh3 ?_
  refine tr tbk 3 (.mk ?_)
  refine sY (yv_add (r := 9) rfl rfl rfl (by decide)) ?_
  refine tr tbk 5 (.mk ?_)
  refine sY (yv_to (y := boo true) (yv_lss rfl rfl rfl) (congrArg boo (by decide))) ?_
  refine tr tbk 9 (.mk ?_)
  obtain ⟨x52, e52, h1⟩ := bind_e h1
  refine sY (yv_ixT rfl Tryz.underlying22 sh3 rfl rfl e52) ?_
  refine tr tbk 6 (.mk ?_)
  obtain ⟨j53, h2, h1⟩ := bind_e h1
  refine rse (Out := fun y H' => (∃ (a : Unit) (k : Unit), a = j53 ∧ y = .list 1 [[.pt 4 v12 0 0], [.pt 4 v12 0 1], [.pt 4 v12 0 2], [.pt 4 v12 0 3], [.pt 4 v12 0 4], [.pt 4 v12 0 5], [.pt 4 v12 0 6], [.pt 4 v12 0 7], [.pt 4 v12 0 8], [.pt 4 v12 0 9], [.pt 4 v12 0 10]] ∧ H' = hk [(1, ⟨31, 10, true, true, v5, [(GState.av a1)]⟩), (2, ⟨55, 11, true, true, v6, [[int a4.Open, int a4.Bought, int a4.Landed, int a4.Arrived, int a4.Returned, int a4.Sold, int a4.Shipped, int a4.SentBack, int a4.Scrapped, int a4.Lost, int a4.Revalued]]⟩), (3, ⟨31, 10, true, true, v7, [[int 0, int 0, .sc (.slice none 0 0), .sc (.slice none 0 0), .sc (.slice none 0 0), .sc (.slice none 0 0), .sc (.slice none 0 0), .sc (.slice none 0 0), .sc (.slice none 0 0), int 0]]⟩), (4, ⟨55, 11, true, true, v12, [[int x18.1, int x22.1, int x26.1, int x30.1, int x34.1, int x38.1, int x42.1, int x46.1, int x50.1, int x11.Lost, int x11.Revalued]]⟩)])) rfl rfl rfl (yl_call rfl rfl (.cons rfl .nil) cal133 ?_) ?_
  refine pcw (c := _) Tryz.func133 rfl rfl ?_; intro Q hret hnorm
  refine tc tbk 5 (.mk ?_)
  refine c_drawE [0, 1, 3, 0, 8, 24, 0, 64, 192, 0, 512, 1536, 0, 4096, 12288, 0, 32768, 98304, 0, 262144, 786432, 0, 2097152, 6291456, 0, 16777216, 50331648, 0, 134217728, 402653184, 0, 1073741824, 3221225472, 8589934591, 17179869183] (rl [(1, [4]), (2, [4]), (4, [4]), (5, [4]), (7, [4]), (8, [4]), (10, [4]), (11, [4]), (13, [4]), (14, [4]), (16, [4]), (17, [4]), (19, [4]), (20, [4]), (22, [4]), (23, [4]), (25, [4]), (26, [4]), (28, [4]), (29, [4]), (31, [4]), (32, [4])] []) (fun i => [4]) (fun i => true) [0, 1, 2, 3, 4, 5, 6, 7, 8, 9, 10, 11, 12, 13, 14, 15, 16, 17, 18, 19, 20, 21, 22, 23, 24, 25, 26, 27, 28, 29, 30, 31, 32, 33, 34] mixed (by kernel_rfl) ?_; intro K hK
  refine eM ?_
  refine eN ?_
  refine eF fo55_0 ?_
  refine eM ?_
  refine eN ?_
  refine eF fo55_1 ?_
  refine eM ?_
  refine eN ?_
  refine eF fo55_2 ?_
  refine eM ?_
  refine eN ?_
  refine eF fo55_3 ?_
  refine eM ?_
  refine eN ?_
  refine eF fo55_4 ?_
  refine eM ?_
  refine eN ?_
  refine eF fo55_5 ?_
  refine eM ?_
  refine eN ?_
  refine eF fo55_6 ?_
  refine eM ?_
  refine eN ?_
  refine eF fo55_7 ?_
  refine eM ?_
  refine eN ?_
  refine eF fo55_8 ?_
  refine eM ?_
  refine eN ?_
  refine eF fo55_9 ?_
  refine eM ?_
  refine eN ?_
  refine eF fo55_10 ?_
  refine eP (fun H hH => yv_buildSlice (ps := [(0, _), (1, _), (2, _), (3, _), (4, _), (5, _), (6, _), (7, _), (8, _), (9, _), (10, _)]) (rows := [[.pt 4 v12 0 0], [.pt 4 v12 0 1], [.pt 4 v12 0 2], [.pt 4 v12 0 3], [.pt 4 v12 0 4], [.pt 4 v12 0 5], [.pt 4 v12 0 6], [.pt 4 v12 0 7], [.pt 4 v12 0 8], [.pt 4 v12 0 9], [.pt 4 v12 0 10]]) rfl Tryz.underlying180 bz89 (.cons rfl (.cons rfl (.cons rfl (.cons rfl (.cons rfl (.cons rfl (.cons rfl (.cons rfl (.cons rfl (.cons rfl (.cons rfl .nil))))))))))) (by kernel_rfl) rfl rfl rfl) ?_
  refine eA ?_
  refine de_nil (hK _ ?_)
  obtain rfl := nxt_e h2
  refine w_ret (hret _ _ (hk [(1, ⟨31, 10, true, true, v5, [(GState.av a1)]⟩), (2, ⟨55, 11, true, true, v6, [[int a4.Open, int a4.Bought, int a4.Landed, int a4.Arrived, int a4.Returned, int a4.Sold, int a4.Shipped, int a4.SentBack, int a4.Scrapped, int a4.Lost, int a4.Revalued]]⟩), (3, ⟨31, 10, true, true, v7, [[int 0, int 0, .sc (.slice none 0 0), .sc (.slice none 0 0), .sc (.slice none 0 0), .sc (.slice none 0 0), .sc (.slice none 0 0), .sc (.slice none 0 0), .sc (.slice none 0 0), int 0]]⟩), (4, ⟨55, 11, true, true, v12, [[int x18.1, int x22.1, int x26.1, int x30.1, int x34.1, int x38.1, int x42.1, int x46.1, int x50.1, int x11.Lost, int x11.Revalued]]⟩)]) (.tmp rfl .nil) (HK.le ⟨rfl, rfl, rfl, rfl, trivial⟩) ?_)
  exact ⟨(), (), rfl, rfl, rfl⟩
  rintro y _ ⟨_, _, rfl, hc, rfl⟩
  subst hc
  refine tr tbk 1 (.mk ?_)
  refine sY (yv_indexAddr (j := 9) rfl Tryz.underlying180 sh89 rfl rfl rfl (.list rfl)) ?_
  refine tr tbk 9 (.mk ?_)
  obtain ⟨x54, e54, h1⟩ := bind_e h1
  refine sC cal134 (d_money_Add_c e54) ?_
  refine tr tbk 10 (.mk ?_)
  refine nb tbk h1 fun x55 h1 => ?_
  refine tr tbk 1 (.mk ?_)
  replace h1 := asrt_e h1
  obtain ⟨rfl, h1⟩ := h1
  refine tc tbk 6 (.mk ?_)
  refine sS ⟨55, 11, true, true, v12, [[int x18.1, int x22.1, int x26.1, int x30.1, int x34.1, int x38.1, int x42.1, int x46.1, int x50.1, int x54.1, int x11.Revalued]]⟩ sh3 ?_
  refine tr tbk 3 (.mk ?_)
  refine sY (yv_add (r := 10) rfl rfl rfl (by decide)) ?_
  refine tr tbk 5 (.mk ?_)
  refine sY (yv_to (y := boo true) (yv_lss rfl rfl rfl) (congrArg boo (by decide))) ?_
  refine tr tbk 9 (.mk ?_)
  obtain ⟨x56, e56, h1⟩ := bind_e h1
  refine sY (yv_ixT rfl Tryz.underlying22 sh3 rfl rfl e56) ?_
  refine tr tbk 6 (.mk ?_)
  obtain ⟨j57, h2, h1⟩ := bind_e h1
  refine rse (Out := fun y H' => (∃ (a : Unit) (k : Unit), a = j57 ∧ y = .list 1 [[.pt 4 v12 0 0], [.pt 4 v12 0 1], [.pt 4 v12 0 2], [.pt 4 v12 0 3], [.pt 4 v12 0 4], [.pt 4 v12 0 5], [.pt 4 v12 0 6], [.pt 4 v12 0 7], [.pt 4 v12 0 8], [.pt 4 v12 0 9], [.pt 4 v12 0 10]] ∧ H' = hk [(1, ⟨31, 10, true, true, v5, [(GState.av a1)]⟩), (2, ⟨55, 11, true, true, v6, [[int a4.Open, int a4.Bought, int a4.Landed, int a4.Arrived, int a4.Returned, int a4.Sold, int a4.Shipped, int a4.SentBack, int a4.Scrapped, int a4.Lost, int a4.Revalued]]⟩), (3, ⟨31, 10, true, true, v7, [[int 0, int 0, .sc (.slice none 0 0), .sc (.slice none 0 0), .sc (.slice none 0 0), .sc (.slice none 0 0), .sc (.slice none 0 0), .sc (.slice none 0 0), .sc (.slice none 0 0), int 0]]⟩), (4, ⟨55, 11, true, true, v12, [[int x18.1, int x22.1, int x26.1, int x30.1, int x34.1, int x38.1, int x42.1, int x46.1, int x50.1, int x54.1, int x11.Revalued]]⟩)])) rfl rfl rfl (yl_call rfl rfl (.cons rfl .nil) cal133 ?_) ?_
  refine pcw (c := _) Tryz.func133 rfl rfl ?_; intro Q hret hnorm
  refine tc tbk 5 (.mk ?_)
  refine c_drawE [0, 1, 3, 0, 8, 24, 0, 64, 192, 0, 512, 1536, 0, 4096, 12288, 0, 32768, 98304, 0, 262144, 786432, 0, 2097152, 6291456, 0, 16777216, 50331648, 0, 134217728, 402653184, 0, 1073741824, 3221225472, 8589934591, 17179869183] (rl [(1, [4]), (2, [4]), (4, [4]), (5, [4]), (7, [4]), (8, [4]), (10, [4]), (11, [4]), (13, [4]), (14, [4]), (16, [4]), (17, [4]), (19, [4]), (20, [4]), (22, [4]), (23, [4]), (25, [4]), (26, [4]), (28, [4]), (29, [4]), (31, [4]), (32, [4])] []) (fun i => [4]) (fun i => true) [0, 1, 2, 3, 4, 5, 6, 7, 8, 9, 10, 11, 12, 13, 14, 15, 16, 17, 18, 19, 20, 21, 22, 23, 24, 25, 26, 27, 28, 29, 30, 31, 32, 33, 34] mixed (by kernel_rfl) ?_; intro K hK
  refine eM ?_
  refine eN ?_
  refine eF fo55_0 ?_
  refine eM ?_
  refine eN ?_
  refine eF fo55_1 ?_
  refine eM ?_
  refine eN ?_
  refine eF fo55_2 ?_
  refine eM ?_
  refine eN ?_
  refine eF fo55_3 ?_
  refine eM ?_
  refine eN ?_
  refine eF fo55_4 ?_
  refine eM ?_
  refine eN ?_
  refine eF fo55_5 ?_
  refine eM ?_
  refine eN ?_
  refine eF fo55_6 ?_
  refine eM ?_
  refine eN ?_
  refine eF fo55_7 ?_
  refine eM ?_
  refine eN ?_
  refine eF fo55_8 ?_
  refine eM ?_
  refine eN ?_
  refine eF fo55_9 ?_
  refine eM ?_
  refine eN ?_
  refine eF fo55_10 ?_
  refine eP (fun H hH => yv_buildSlice (ps := [(0, _), (1, _), (2, _), (3, _), (4, _), (5, _), (6, _), (7, _), (8, _), (9, _), (10, _)]) (rows := [[.pt 4 v12 0 0], [.pt 4 v12 0 1], [.pt 4 v12 0 2], [.pt 4 v12 0 3], [.pt 4 v12 0 4], [.pt 4 v12 0 5], [.pt 4 v12 0 6], [.pt 4 v12 0 7], [.pt 4 v12 0 8], [.pt 4 v12 0 9], [.pt 4 v12 0 10]]) rfl Tryz.underlying180 bz89 (.cons rfl (.cons rfl (.cons rfl (.cons rfl (.cons rfl (.cons rfl (.cons rfl (.cons rfl (.cons rfl (.cons rfl (.cons rfl .nil))))))))))) (by kernel_rfl) rfl rfl rfl) ?_
  refine eA ?_
  refine de_nil (hK _ ?_)
  obtain rfl := nxt_e h2
  refine w_ret (hret _ _ (hk [(1, ⟨31, 10, true, true, v5, [(GState.av a1)]⟩), (2, ⟨55, 11, true, true, v6, [[int a4.Open, int a4.Bought, int a4.Landed, int a4.Arrived, int a4.Returned, int a4.Sold, int a4.Shipped, int a4.SentBack, int a4.Scrapped, int a4.Lost, int a4.Revalued]]⟩), (3, ⟨31, 10, true, true, v7, [[int 0, int 0, .sc (.slice none 0 0), .sc (.slice none 0 0), .sc (.slice none 0 0), .sc (.slice none 0 0), .sc (.slice none 0 0), .sc (.slice none 0 0), .sc (.slice none 0 0), int 0]]⟩), (4, ⟨55, 11, true, true, v12, [[int x18.1, int x22.1, int x26.1, int x30.1, int x34.1, int x38.1, int x42.1, int x46.1, int x50.1, int x54.1, int x11.Revalued]]⟩)]) (.tmp rfl .nil) (HK.le ⟨rfl, rfl, rfl, rfl, trivial⟩) ?_)
  exact ⟨(), (), rfl, rfl, rfl⟩
  rintro y _ ⟨_, _, rfl, hc, rfl⟩
  subst hc
  refine tr tbk 1 (.mk ?_)
  refine sY (yv_indexAddr (j := 10) rfl Tryz.underlying180 sh89 rfl rfl rfl (.list rfl)) ?_
  refine tr tbk 9 (.mk ?_)
  obtain ⟨x58, e58, h1⟩ := bind_e h1
  refine sC cal134 (d_money_Add_c e58) ?_
  refine tr tbk 10 (.mk ?_)
  refine nb tbk h1 fun x59 h1 => ?_
  refine tr tbk 1 (.mk ?_)
  replace h1 := asrt_e h1
  obtain ⟨rfl, h1⟩ := h1
  refine tc tbk 6 (.mk ?_)
  refine sS ⟨55, 11, true, true, v12, [[int x18.1, int x22.1, int x26.1, int x30.1, int x34.1, int x38.1, int x42.1, int x46.1, int x50.1, int x54.1, int x58.1]]⟩ sh3 ?_
  refine tr tbk 3 (.mk ?_)
  refine sY (yv_add (r := 11) rfl rfl rfl (by decide)) ?_
  refine tr tbk 5 (.mk ?_)
  refine sY (yv_to (y := boo false) (yv_lss rfl rfl rfl) (congrArg boo (by decide))) ?_
  refine tr tbk 4 (.mk ?_)
  exact lf h1 () leA
  rintro y2_1 _ h0
  refine tc tbk 3 (.mk ?_)
  refine sY (yv_build (cs := (GState.av a1)) (ps := [(0, _)]) rfl pl173 z173 rfl (.cons rfl .nil) (by kernel_rfl)) ?_
  refine sA 6 z173 fun v60 => ?_
  refine sS ⟨173, 10, true, true, v60, [(GState.av a1)]⟩ sh173 ?_
  refine tr tbk 4 (.mk ?_)
  obtain ⟨j61, h1, h0⟩ := bind_e h0
  refine rse (Out := fun y H' => (∃ (a : Unit) (k : Nat), a = j61 ∧ y = .pt 7 k (Int.toNat a2) 0 ∧ H' = hk [(1, ⟨31, 10, true, true, v5, [(GState.av a1)]⟩), (3, ⟨31, 10, true, true, v7, [[int 0, int 0, .sc (.slice none 0 0), .sc (.slice none 0 0), .sc (.slice none 0 0), .sc (.slice none 0 0), .sc (.slice none 0 0), .sc (.slice none 0 0), .sc (.slice none 0 0), int 0]]⟩), (4, ⟨55, 11, true, true, v12, [[int y2_1.Open, int y2_1.Bought, int y2_1.Landed, int y2_1.Arrived, int y2_1.Returned, int y2_1.Sold, int y2_1.Shipped, int y2_1.SentBack, int y2_1.Scrapped, int y2_1.Lost, int y2_1.Revalued]]⟩), (6, ⟨173, 10, true, true, v60, [[int a1.Master.Entities, int a1.Master.Periods, lst 1 fI a1.Master.Weights, lst 1 (fL 1 fI) a1.Master.Methods, lst 1 (fL 1 fI) a1.Master.Costs, .sl 7 k 0 a1.Ents.length, lst 8 GReceipt.av a1.Receipts, lst 9 GSale.av a1.Sales, lst 6 GTransit.av a1.Transits, int a1.Done]]⟩), (7, ⟨46, 8, true, true, k, a1.Ents.map GEnt.av⟩)])) rfl rfl rfl (yl_call rfl rfl (.cons rfl (.cons rfl .nil)) cal131 ?_) ?_
  refine pcw (c := _) Tryz.func131 rfl rfl ?_; intro Q hret hnorm
  refine tc tbk 12 (.mk ?_)
  obtain ⟨p62, h1⟩ := asrt_e h1
  refine rse rfl rfl rfl (yl_call rfl rfl (.cons rfl .nil) cal52 (pc_cv (clone52_c (id := 7) (l := a1.Ents) rfl p62) (.cons (.refl _) .nil))) ?_; rintro _ _ ⟨v63, rfl, rfl⟩
  refine tr tbk 3 (.mk ?_)
  refine sS ⟨173, 10, true, true, v60, [[int a1.Master.Entities, int a1.Master.Periods, lst 1 fI a1.Master.Weights, lst 1 (fL 1 fI) a1.Master.Methods, lst 1 (fL 1 fI) a1.Master.Costs, .sl 7 v63 0 a1.Ents.length, lst 8 GReceipt.av a1.Receipts, lst 9 GSale.av a1.Sales, lst 6 GTransit.av a1.Transits, int a1.Done]]⟩ sh26 ?_
  refine tr tbk 9 (.mk ?_)
  obtain ⟨x64, e64, h1⟩ := bind_e h1
  refine sY (yv_ixO rfl Tryz.underlying26 sh46 rfl rfl rfl rfl rfl (Eq.symm rfl) (List.length_map _) e64) ?_
  refine tr tbk 2 (.mk ?_)
  obtain rfl := nxt_e h1
  refine w_ret (hret _ _ (hk [(1, ⟨31, 10, true, true, v5, [(GState.av a1)]⟩), (3, ⟨31, 10, true, true, v7, [[int 0, int 0, .sc (.slice none 0 0), .sc (.slice none 0 0), .sc (.slice none 0 0), .sc (.slice none 0 0), .sc (.slice none 0 0), .sc (.slice none 0 0), .sc (.slice none 0 0), int 0]]⟩), (4, ⟨55, 11, true, true, v12, [[int y2_1.Open, int y2_1.Bought, int y2_1.Landed, int y2_1.Arrived, int y2_1.Returned, int y2_1.Sold, int y2_1.Shipped, int y2_1.SentBack, int y2_1.Scrapped, int y2_1.Lost, int y2_1.Revalued]]⟩), (6, ⟨173, 10, true, true, v60, [[int a1.Master.Entities, int a1.Master.Periods, lst 1 fI a1.Master.Weights, lst 1 (fL 1 fI) a1.Master.Methods, lst 1 (fL 1 fI) a1.Master.Costs, .sl 7 v63 0 a1.Ents.length, lst 8 GReceipt.av a1.Receipts, lst 9 GSale.av a1.Sales, lst 6 GTransit.av a1.Transits, int a1.Done]]⟩), (7, ⟨46, 8, true, true, v63, a1.Ents.map GEnt.av⟩)]) (.tmp rfl .nil) (HK.le ⟨rfl, rfl, rfl, rfl, rfl, trivial⟩) ?_)
  exact ⟨(), v63, rfl, rfl, rfl⟩
  rintro y _ ⟨_, w3_1, rfl, hc, rfl⟩
  subst hc
  refine tr tbk 6 (.mk ?_)
  obtain ⟨x65, e65, h0⟩ := bind_e h0
  refine sY (yv_nilCheck rfl rfl (.pt rfl rfl (ix_get' e65 (GEnt.av_eq _)))) ?_
  refine sY (yv_fieldAddr rfl fo46_4 rfl (.pt rfl rfl (ix_get' e65 (GEnt.av_eq _))) (.pt _ _ _ _ _)) ?_
  refine sY (yv_load rfl sh44 rfl (.pt rfl rfl (ix_get' e65 (GEnt.av_eq _))) rfl) ?_
  obtain ⟨p66, h0⟩ := asrt_e h0
  refine rse rfl rfl rfl (yl_call rfl rfl (.cons rfl .nil) cal135 (pc_cv (clone135_c (id := 8) (l := x65.Rolls) rfl p66) (.cons (.refl _) .nil))) ?_; rintro _ _ ⟨v67, rfl, rfl⟩
  refine sY (yv_nilCheck rfl rfl (.pt rfl rfl (ix_get' e65 (GEnt.av_eq _)))) ?_
  refine sY (yv_fieldAddr rfl fo46_4 rfl (.pt rfl rfl (ix_get' e65 (GEnt.av_eq _))) (.pt _ _ _ _ _)) ?_
  refine rsstore rfl rfl (yl_ob (ob' := (⟨46, 8, true, true, w3_1, (a1.Ents.map GEnt.av).set (Int.toNat a2) [int x65.Now, boo x65.Closed, lst 4 GPool.av x65.Pools, lst 1 fI x65.Bal, .sl 8 v67 0 x65.Rolls.length, lst 1 fI x65.Prices, lst 1 fI x65.Down, lst 8 GEnt.av x65.Ahead]⟩ : AObj)) (yl_store rfl sh44 rfl rfl rfl rfl rfl (ix_get' e65 (GEnt.av_eq _)) rfl rfl rfl) (ob_eq rfl)) ?_
  refine tr tbk 2 (.mk ?_)
  refine c_drawE [0, 1, 3, 7, 0, 0, 63, 127] (rl [(1, [7]), (2, [7]), (3, [7]), (5, [4]), (6, [8])] []) (rl [(7, [])] [4, 7, 8]) (rl [(7, false)] true) [0, 1, 2, 3, 4, 5, 6, 7] mixed (by kernel_rfl) ?_; intro K hK
  refine eM ?_
  refine eN (hr := set_get e65) ?_
  refine eF fo46_4 (hr := set_get e65) ?_
  refine eL sh44 (hr := set_get e65) ?_
  refine eM ?_
  refine eL sh55 ?_
  obtain ⟨x68, e68, h0⟩ := bind_e h0
  refine de_pure rfl rfl rfl rfl (fun H hH => yv_ixO rfl Tryz.underlying44 sh55 rfl rfl ((hH _ (by decide)).trans rfl) rfl rfl (Eq.symm rfl) (List.length_map _) e68) ?_
  obtain ⟨x69, e69, h0⟩ := bnd_e h0
  have fx69 := ix_set e68 e69; have lx69 := len_setV e69 (rfl : x65.Rolls.length = x65.Rolls.length)
  refine de_eff0 rfl rfl rfl rfl (Yield.weak (yl_ob (ob' := (⟨55, 11, true, true, v67, x69.map GRoll.av⟩ : AObj)) (yl_store rfl sh55 rfl rfl rfl rfl rfl (ix_get e68) rfl rfl rfl) (ob_eq (map_setV e69))) (fun _ h => h) (fun _ _ => trivial)) (by rintro _ _ ⟨rfl, rfl⟩; exact trivial) ?_; rintro _ _ ⟨rfl, rfl⟩
  refine de_nil (hK _ ?_)
  refine tc tbk 4 (.mk ?_)
  refine sS ⟨31, 10, true, true, v7, [[int a1.Master.Entities, int a1.Master.Periods, lst 1 fI a1.Master.Weights, lst 1 (fL 1 fI) a1.Master.Methods, lst 1 (fL 1 fI) a1.Master.Costs, .sl 7 w3_1 0 a1.Ents.length, lst 8 GReceipt.av a1.Receipts, lst 9 GSale.av a1.Sales, lst 6 GTransit.av a1.Transits, int a1.Done]]⟩ sh31 ?_
  refine tr tbk 2 (.mk ?_)
  obtain rfl := nxt_e h0
  refine wR hret (rC sh31 (rT .nil)) ?_
  exact CvL.tup (.cons (CvL.agg (.cons (.refl _) (.cons (.refl _) (.cons (.refl _) (.cons (.refl _) (.cons (.refl _) (.cons (cv_ov rfl rfl rfl rfl rfl (Eq.symm rfl) e65 (cvl_to (.cons (.refl _) (.cons (.refl _) (.cons (.refl _) (.cons (.refl _) (.cons (cv_lst rfl rfl rfl rfl rfl (Eq.symm lx69)) (.cons (.refl _) (.cons (.refl _) (.cons (.refl _) .nil)))))))) (GEnt.av_eq _))) (.cons (.refl _) (.cons (.refl _) (.cons (.refl _) (.cons (.refl _) .nil))))))))))) (.cons (.refl _) .nil))
def d_sell_sell (n : Nat) (a1 : GState) (a2 : GOp) : Option (GState × Int) :=
bnd (decide ((a1.Sales.length : Int) ≥ 40)) fun x6 =>
asrt (x6 = false) <|
(d_stock_Fetch n a1 a2.E a2.Item a2.Loc 0 a2.Qty).bind fun x7 =>
bnd (decide (x7.2.2.2 ≠ 0)) fun x10 =>
cond x10 (some ((a1 : GState), (x7.2.2.2 : Int))) ((d_sell_line 3 a2.Amount).bind fun x11 =>
bnd (w64 (0 - a2.Amount)) fun x12 =>
(d_sell_line 4 x12).bind fun x13 =>
(d_sell_line 5 x7.2.1.Value).bind fun x14 =>
bnd (w64 (0 - x7.2.1.Value)) fun x15 =>
(d_sell_line 0 x15).bind fun x16 =>
(d_stock_Post n x7.1 a2.E ([x11, x13, x14, x16] : List GLine)).bind fun x17 =>
bnd (decide (x17.2 ≠ 0)) fun x18 =>
asrt (x18 = false) <|
(d_stock_Turn x17.1 a2.E a2.Item (⟨0, 0, 0, 0, 0, x7.2.1.Value, 0, 0, 0, 0, 0⟩ : GRoll)).bind fun x19 =>
bnd (decide (x19.2 ≠ 0)) fun x20 =>
asrt (x20 = false) <|
(ix a1.Ents a2.E).bind fun x21 =>
bnd x7.2.2.1 fun x22 =>
asrt (x19.1.Sales.length ≤ 68719476736) <|
bnd (x19.1.Sales ++ ([(⟨a2.E, a2.Item, a2.Loc, a2.Qty, 0, x7.2.1.Value, x7.2.1.Profit, x21.Now, x22⟩ : GSale)] : List GSale)) fun x25 =>
asrt (x25.length ≤ 68719476736) <|
some (((⟨x19.1.Master, x19.1.Ents, x19.1.Receipts, x25, x19.1.Transits, x19.1.Done⟩ : GState) : GState), (0 : Int)))
theorem d_sell_sell_c {n : Nat} {a1 : GState} {a2 : GOp} {r : GState × Int} (h0 : d_sell_sell n a1 a2 = some r) : PP Tryz.prog 80 [.agg (GState.av a1), .agg (GOp.av a2)] (fun y => y = .tup [.agg (GState.av r.1), int r.2]) := by
  unfold d_sell_sell at h0
  refine pp_of_pc (R0 := fun y H => Cv (frzH H) y (.tup [.agg (GState.av r.1), int r.2])) ?_ (fun y H hc => ⟨_, rfl, .tup (pvl2 ((fun (a : GState) => PV.agg (GState.pvc a)) (r.1)) (pvI (r.2))), hc⟩)
  refine pcw (c := _) Tryz.func80 rfl rfl ?_; intro Q hret hnorm
  refine tc tbk 2 (.mk ?_)
  refine sB 1 fun v3 => ?_
  refine sB 2 fun v4 => ?_
  refine sA 3 z31 fun v5 => ?_
  refine tr tbk 7 (.mk ?_)
  refine sY (yv_len_sl rfl Tryz.underlying28 rfl (lst_len _)) ?_
  refine nb tbk h0 fun x6 h0 => ?_
  refine tr tbk 1 (.mk ?_)
  replace h0 := asrt_e h0
  obtain ⟨rfl, h0⟩ := h0
  refine tc tbk 13 (.mk ?_)
  obtain ⟨x7, e7, h0⟩ := bind_e h0
  refine sC cal136 (d_stock_Fetch_c e7) ?_
  refine tr tbk 5 (.mk ?_)
  refine sA 4 z31 fun v8 => ?_
  refine sA 5 z57 fun v9 => ?_
  refine sS ⟨31, 10, true, true, v8, [(GState.av x7.1)]⟩ sh31 ?_
  refine sS ⟨57, 3, true, true, v9, [[int x7.2.1.Qty, int x7.2.1.Value, int x7.2.1.Profit]]⟩ sh57 ?_
  refine tr tbk 7 (.mk ?_)
  refine nb tbk h0 fun x10 h0 => ?_
  refine tr tbk 1 (.mk ?_)
  cases x10
  replace h0 := cf h0
  refine tc tbk 3 (.mk ?_)
  refine c_drawE [0, 0, 2, 0, 8, 24, 0, 64, 192, 504, 0, 1024, 4088, 0, 8192, 24576, 65528, 131064, 262143, 524287, 1048575, 1048575, 2097151, 8388607] (rl [(0, [4]), (1, [2]), (2, [2]), (3, [2]), (4, [2]), (6, [2]), (7, [2]), (10, [5]), (11, [5]), (13, [5]), (14, [5])] []) (rl [(22, [])] [2, 4, 5]) (rl [(22, false)] true) [0, 1, 2, 3, 4, 5, 6, 7, 8, 9, 10, 11, 12, 13, 14, 15, 16, 17, 18, 19, 20, 21, 22, 23] mixed (by kernel_rfl) ?_; intro K hK
  refine eL sh31 ?_
  refine eF fo37_1 ?_
  refine eL sh3 ?_
  refine eF fo37_6 ?_
  refine eL sh3 ?_
  obtain ⟨x11, e11, h0⟩ := bind_e h0
  refine eP (fun H hH => yv_callP rfl rfl (.cons rfl (.cons rfl .nil)) cal137 (CvL.refl _) (d_sell_line_c e11)) ?_
  refine eF fo37_6 ?_
  refine eL sh3 ?_
  obtain ⟨x12, e12, h0⟩ := bnd_e h0
  refine eP (fun H hH => yv_neg rfl rfl e12) ?_
  obtain ⟨x13, e13, h0⟩ := bind_e h0
  refine eP (fun H hH => yv_callP rfl rfl (.cons rfl (.cons rfl .nil)) cal137 (CvL.refl _) (d_sell_line_c e13)) ?_
  refine eF fo57_1 ?_
  refine eL sh3 ?_
  obtain ⟨x14, e14, h0⟩ := bind_e h0
  refine eP (fun H hH => yv_callP rfl rfl (.cons rfl (.cons rfl .nil)) cal137 (CvL.refl _) (d_sell_line_c e14)) ?_
  refine eF fo57_1 ?_
  refine eL sh3 ?_
  obtain ⟨x15, e15, h0⟩ := bnd_e h0
  refine eP (fun H hH => yv_neg rfl rfl e15) ?_
  obtain ⟨x16, e16, h0⟩ := bind_e h0
  refine eP (fun H hH => yv_callP rfl rfl (.cons rfl (.cons rfl .nil)) cal137 (CvL.refl _) (d_sell_line_c e16)) ?_
  refine eP (fun H hH => yv_to (y := lst 2 GLine.av ([x11, x13, x14, x16] : List GLine)) (yv_buildSlice (ps := [(0, _), (1, _), (2, _), (3, _)]) (rows := [[int x11.Account, int x11.Amount], [int x13.Account, int x13.Amount], [int x14.Account, int x14.Amount], [int x16.Account, int x16.Amount]]) rfl Tryz.underlying126 bz125 (.cons rfl (.cons rfl (.cons rfl (.cons rfl .nil)))) (by kernel_rfl) rfl rfl rfl) rfl) ?_
  obtain ⟨x17, e17, h0⟩ := bind_e h0
  refine eP (fun H hH => yv_callP rfl rfl (.cons rfl (.cons rfl (.cons rfl .nil))) cal76 (CvL.refl _) (d_stock_Post_c e17)) ?_
  refine eM ?_
  iterate 2 refine eX ?_
  refine de_eff0 rfl rfl rfl rfl (Yield.weak (yl_ob (ob' := (⟨31, 10, true, true, v8, [(GState.av x17.1)]⟩ : AObj)) (yl_store rfl sh31 rfl rfl rfl rfl rfl rfl rfl rfl rfl) rfl) (fun _ h => h) (fun _ _ => trivial)) (by rintro _ _ ⟨rfl, rfl⟩; exact trivial) ?_; rintro _ _ ⟨rfl, rfl⟩
  refine eA ?_
  refine de_nil (hK _ ?_)
  refine tc tbk 4 (.mk ?_)
  refine nb tbk h0 fun x18 h0 => ?_
  refine tr tbk 1 (.mk ?_)
  replace h0 := asrt_e h0
  obtain ⟨rfl, h0⟩ := h0
  refine tc tbk 11 (.mk ?_)
  refine sY (yv_build (cs := [int 0, int 0, int 0, int 0, int 0, int x7.2.1.Value, int 0, int 0, int 0, int 0, int 0]) (ps := [(5, _)]) rfl pl55 z55 rfl (.cons rfl .nil) (by kernel_rfl)) ?_
  obtain ⟨x19, e19, h0⟩ := bind_e h0
  refine sC cal78 (d_stock_Turn_c e19) ?_
  refine tr tbk 3 (.mk ?_)
  refine sS ⟨31, 10, true, true, v8, [(GState.av x19.1)]⟩ sh31 ?_
  refine tr tbk 6 (.mk ?_)
  refine nb tbk h0 fun x20 h0 => ?_
  refine tr tbk 1 (.mk ?_)
  replace h0 := asrt_e h0
  obtain ⟨rfl, h0⟩ := h0
  refine tc tbk 3 (.mk ?_)
  refine c_drawE [0, 1, 3, 0, 8, 0, 32, 0, 128, 0, 512, 0, 2048, 0, 8192, 0, 32768, 0, 131072, 491520, 1015808, 2064384, 0, 8388600, 16777208, 33554431, 67108863, 134217727] (rl [(0, [4]), (1, [4]), (3, [2]), (4, [2]), (5, [2]), (6, [2]), (7, [2]), (8, [2]), (9, [2]), (10, [2]), (11, [5]), (12, [5]), (13, [5]), (14, [5]), (15, [1]), (16, [1]), (17, [2]), (18, [2]), (26, [4])] []) (rl [(2, [1, 2, 5]), (25, []), (27, [])] [1, 2, 4, 5]) (rl [(2, false), (25, false), (27, false)] true) [0, 1, 3, 4, 5, 6, 7, 8, 9, 10, 11, 12, 13, 14, 15, 16, 17, 18, 19, 20, 21, 22, 23, 24, 2, 25, 26, 27] mixed (by kernel_rfl) ?_; intro K hK
  refine eF fo31_3 ?_
  refine eL sh28 ?_
  refine eF fo37_1 ?_
  refine eL sh3 ?_
  refine eF fo37_2 ?_
  refine eL sh3 ?_
  refine eF fo37_3 ?_
  refine eL sh3 ?_
  refine eF fo37_5 ?_
  refine eL sh3 ?_
  refine eF fo57_1 ?_
  refine eL sh3 ?_
  refine eF fo57_2 ?_
  refine eL sh3 ?_
  refine eF fo31_1 ?_
  refine eL sh26 ?_
  refine eF fo37_1 ?_
  refine eL sh3 ?_
  obtain ⟨x21, e21, h0⟩ := bind_e h0
  refine eP (fun H hH => yv_to (y := .pp [int x21.Now, boo x21.Closed, lst 4 GPool.av x21.Pools, lst 1 fI x21.Bal, lst 11 GRoll.av x21.Rolls, lst 1 fI x21.Prices, lst 1 fI x21.Down, lst 8 GEnt.av x21.Ahead]) (yv_ixT rfl Tryz.underlying26 sh46 rfl rfl e21) (congrArg AV.pp (GEnt.av_eq x21))) ?_
  refine eP (fun H hH => yv_fieldAddr rfl fo46_0 rfl (.pp _) (.pp _ _)) ?_
  refine eP (fun H hH => yv_load rfl sh3 rfl (.pp _) rfl) ?_
  obtain ⟨x22, e22, h0⟩ := bnd_e h0
  refine eP (fun H hH => yv_to (y := boo x22) (yv_move rfl rfl) (congrArg boo e22)) ?_
  refine eP (fun H hH => yv_build (cs := [int a2.E, int a2.Item, int a2.Loc, int a2.Qty, int 0, int x7.2.1.Value, int x7.2.1.Profit, int x21.Now, boo x22]) (ps := [(0, _), (1, _), (2, _), (3, _), (5, _), (6, _), (7, _), (8, _)]) rfl pl53 z53 rfl (.cons rfl (.cons rfl (.cons rfl (.cons rfl (.cons rfl (.cons rfl (.cons rfl (.cons rfl .nil)))))))) (by kernel_rfl)) ?_
  refine eP (fun H hH => yv_to (y := lst 9 GSale.av ([(⟨a2.E, a2.Item, a2.Loc, a2.Qty, 0, x7.2.1.Value, x7.2.1.Profit, x21.Now, x22⟩ : GSale)] : List GSale)) (yv_buildSlice (ps := [(0, _)]) (rows := [[int a2.E, int a2.Item, int a2.Loc, int a2.Qty, int 0, int x7.2.1.Value, int x7.2.1.Profit, int x21.Now, boo x22]]) rfl Tryz.underlying28 bz53 (.cons rfl .nil) (by kernel_rfl) rfl rfl rfl) rfl) ?_
  obtain ⟨p23, h0⟩ := asrt_e h0
  refine de_eff rfl rfl rfl rfl (yl_call rfl rfl (.cons rfl .nil) cal53 (pc_cv (clone53_c (id := 6) (l := x19.1.Sales) rfl p23) (.cons (.refl _) .nil))) (by rintro _ _ ⟨v24, rfl, rfl⟩; exact ⟨rfl, rfl, rfl, trivial⟩) ?_; rintro _ _ ⟨v24, rfl, rfl⟩
  obtain ⟨x25, e25, h0⟩ := bnd_e h0
  obtain ⟨p26, h0⟩ := asrt_e h0
  refine de_eff rfl rfl rfl rfl (yl_appT (g := GSale.av) (l := x19.1.Sales) (m := ([(⟨a2.E, a2.Item, a2.Loc, a2.Qty, 0, x7.2.1.Value, x7.2.1.Profit, x21.Now, x22⟩ : GSale)] : List GSale)) .any rfl Tryz.underlying28 bz53 by53 rfl rfl rfl rfl rfl rfl rfl rfl rfl rfl (Eq.symm rfl) (.refl _) (fun _ => rfl) e25 p26) (by rintro _ _ ⟨v27, -, rfl, rfl⟩; exact trivial) ?_; rintro _ _ ⟨v27, -, rfl, rfl⟩
  refine eF fo31_3 ?_
  refine de_eff0 rfl rfl rfl rfl (Yield.weak (yl_ob (ob' := (⟨31, 10, true, true, v8, [[int x19.1.Master.Entities, int x19.1.Master.Periods, lst 1 fI x19.1.Master.Weights, lst 1 (fL 1 fI) x19.1.Master.Methods, lst 1 (fL 1 fI) x19.1.Master.Costs, lst 8 GEnt.av x19.1.Ents, lst 8 GReceipt.av x19.1.Receipts, .sl 6 v27 0 x25.length, lst 6 GTransit.av x19.1.Transits, int x19.1.Done]]⟩ : AObj)) (yl_store rfl sh28 rfl rfl rfl rfl rfl rfl rfl rfl rfl) rfl) (fun _ h => h) (fun _ _ => trivial)) (by rintro _ _ ⟨rfl, rfl⟩; exact trivial) ?_; rintro _ _ ⟨rfl, rfl⟩
  refine de_nil (hK _ ?_)
  refine tc tbk 3 (.mk ?_)
  refine sS ⟨31, 10, true, true, v5, [[int x19.1.Master.Entities, int x19.1.Master.Periods, lst 1 fI x19.1.Master.Weights, lst 1 (fL 1 fI) x19.1.Master.Methods, lst 1 (fL 1 fI) x19.1.Master.Costs, lst 8 GEnt.av x19.1.Ents, lst 8 GReceipt.av x19.1.Receipts, .sl 6 v27 0 x25.length, lst 6 GTransit.av x19.1.Transits, int x19.1.Done]]⟩ sh31 ?_
  refine tr tbk 2 (.mk ?_)
  obtain rfl := nxt_e h0
  refine wR hret (rC sh31 (rT .nil)) ?_
  exact CvL.tup (.cons (CvL.agg (.cons (.refl _) (.cons (.refl _) (.cons (.refl _) (.cons (.refl _) (.cons (.refl _) (.cons (.refl _) (.cons (.refl _) (.cons (cv_lst rfl rfl rfl rfl rfl (Eq.symm rfl)) (.cons (.refl _) (.cons (.refl _) .nil))))))))))) (.cons (.refl _) .nil))
  replace h0 := ct h0
  refine tc tbk 5 (.mk ?_)
  refine sS ⟨31, 10, true, true, v5, [(GState.av a1)]⟩ sh31 ?_
  refine tr tbk 2 (.mk ?_)
  obtain rfl := nxt_e h0
  refine wR hret (rC sh31 (rT .nil)) ?_
  exact .refl _
def d_sell_Do (n : Nat) (a1 : GState) (a2 : GOp) : Option (GState × Int) :=
(show Option ((GOp × GSale) ⊕ (GState × Int)) from
bnd (decide (a2.Kind = 5)) fun x8 =>
cond x8 ((show Option (Bool) from
bnd (decide (a2.Ref < 0)) fun x12 =>
cond x12 (some (true : Bool)) (bnd (decide (a2.Ref ≥ (a1.Sales.length : Int))) fun x13 =>
some (x13 : Bool))).bind <| fun y0_1 =>
cond y0_1 (esc (some ((a1 : GState), (4 : Int)))) ((ix a1.Sales a2.Ref).bind fun x14 =>
brk (((⟨a2.Kind, x14.Entity, x14.Item, x14.Loc, a2.To, a2.Qty, a2.Amount, a2.Ref, a2.Refs⟩ : GOp) : GOp), (x14 : GSale)))) (bnd (decide (a2.Kind = 4)) fun x9 =>
cond x9 (brk ((a2 : GOp), ((⟨0, 0, 0, 0, 0, 0, 0, 0, false⟩ : GSale) : GSale))) (esc (some ((a1 : GState), (1 : Int)))))).bind <| sel <| p2 fun (y1_1 : GOp) (y1_2 : GSale) =>
(d_stock_Ready a1 y1_1.E y1_1.Item).bind fun x16 =>
bnd (decide (x16 ≠ 0)) fun x17 =>
asrt (x17 = false) <|
bnd (decide (y1_1.Kind = 4)) fun x19 =>
asrt (x19 = true) <|
(d_sell_sell n a1 y1_1).bind fun x20 =>
bnd (decide (x20.2 ≠ 0)) fun x21 =>
cond x21 (some ((a1 : GState), (x20.2 : Int))) (some ((x20.1 : GState), (0 : Int)))
theorem d_sell_Do_c {n : Nat} {a1 : GState} {a2 : GOp} {r : GState × Int} (h0 : d_sell_Do n a1 a2 = some r) : PP Tryz.prog 37 [.agg (GState.av a1), .agg (GOp.av a2)] (fun y => y = .tup [.agg (GState.av r.1), int r.2]) := by
  unfold d_sell_Do at h0
  refine pp_of_pc (R0 := fun y H => Cv (frzH H) y (.tup [.agg (GState.av r.1), int r.2])) ?_ (fun y H hc => ⟨_, rfl, .tup (pvl2 ((fun (a : GState) => PV.agg (GState.pvc a)) (r.1)) (pvI (r.2))), hc⟩)
  refine pcw (c := _) Tryz.func37 rfl rfl ?_; intro Q hret hnorm
  refine tc tbk 2 (.mk ?_)
  refine sB 1 fun v3 => ?_
  refine sB 2 fun v4 => ?_
  refine sA 3 z31 fun v5 => ?_
  refine tr tbk 4 (.mk ?_)
  refine sA 4 z53 fun v6 => ?_
  refine tr tbk 11 (.mk ?_)
  refine jnE h0 [2, 3, 4, 5, 6] [1, 3] (fun (a : GOp × GSale) (k : Unit) => []) (fun a k => [(2, ⟨37, 9, true, true, v4, [[int a.1.Kind, int a.1.E, int a.1.Item, int a.1.Loc, int a.1.To, int a.1.Qty, int a.1.Amount, int a.1.Ref, lst 1 fI a.1.Refs]]⟩), (4, ⟨53, 9, true, true, v6, [[int a.2.Entity, int a.2.Item, int a.2.Loc, int a.2.Qty, int a.2.Back, int a.2.Cost, int a.2.Profit, int a.2.Period, boo a.2.Waits]]⟩)]) ⟨fun j7 h1 h0 => ?_, ?_⟩
  refine tc tbk 7 (.mk ?_)
  refine nb tbk h1 fun x8 h1 => ?_
  refine tr tbk 2 (.mk ?_)
  cases x8
  replace h1 := cf h1
  refine tc tbk 4 (.mk ?_)
  refine nb tbk h1 fun x9 h1 => ?_
  refine tr tbk 2 (.mk ?_)
  cases x9
  replace h1 := cf h1
  refine tc tbk 2 (.mk ?_)
  obtain ⟨c10, hX, hj⟩ := esc_e h1; subst hj; replace h0 := hX.trans (sel_r h0)
  refine tc tbk 5 (.mk ?_)
  refine sS ⟨31, 10, true, true, v5, [(GState.av a1)]⟩ sh31 ?_
  refine tr tbk 2 (.mk ?_)
  obtain rfl := nxt_e h0
  refine wR hret (rC sh31 (rT .nil)) ?_
  exact .refl _
  replace h1 := ct h1
  refine tc tbk 2 (.mk ?_)
  exact lfE h1 () leA
  replace h1 := ct h1
  refine tc tbk 4 (.mk ?_)
  refine jn h1 [2, 3, 4, 5, 6] [1, 2, 3, 4] (fun (a : Bool) (k : Unit) => [(26, boo a)]) (fun a k => []) ⟨fun j11 h2 => ?_, ?_⟩
  refine tc tbk 3 (.mk ?_)
  refine nb tbk h2 fun x12 h2 => ?_
  refine tr tbk 1 (.mk ?_)
  cases x12
  replace h2 := cf h2
  refine tr tbk 4 (.mk ?_)
  refine sY (yv_len_sl rfl Tryz.underlying28 rfl (lst_len _)) ?_
  refine nb tbk h2 fun x13 h2 => ?_
  refine tr tbk 2 (.mk ?_)
  exact lf h2 () leA
  replace h2 := ct h2
  refine tr tbk 8 (.mk ?_)
  exact lf h2 () leA
  rintro y0_1 _ h1
  cases y0_1
  replace h1 := cf h1
  refine tc tbk 8 (.mk ?_)
  obtain ⟨x14, e14, h1⟩ := bind_e h1
  refine sY (yv_ixT rfl Tryz.underlying28 sh53 rfl rfl e14) ?_
  refine tr tbk 1 (.mk ?_)
  refine sS ⟨53, 9, true, true, v6, [[int x14.Entity, int x14.Item, int x14.Loc, int x14.Qty, int x14.Back, int x14.Cost, int x14.Profit, int x14.Period, boo x14.Waits]]⟩ sh53 ?_
  refine tr tbk 1 (.mk ?_)
  refine c_drawE [0, 1, 0, 4, 0, 16, 3, 67, 207, 463, 1023, 2047] (rl [(0, [4]), (1, [4]), (2, [4]), (3, [4]), (4, [4]), (5, [4]), (6, [2]), (8, [2]), (10, [2])] []) (rl [(7, [4]), (9, [4]), (11, [])] [2, 4]) (rl [(7, false), (9, false), (11, false)] true) [0, 1, 2, 3, 4, 5, 6, 7, 8, 9, 10, 11] mixed (by kernel_rfl) ?_; intro K hK
  refine eF fo53_0 ?_
  refine eL sh3 ?_
  refine eF fo53_1 ?_
  refine eL sh3 ?_
  refine eF fo53_2 ?_
  refine eL sh3 ?_
  refine eF fo37_1 ?_
  refine de_eff0 rfl rfl rfl rfl (Yield.weak (yl_ob (ob' := (⟨37, 9, true, true, v4, [[int a2.Kind, int x14.Entity, int a2.Item, int a2.Loc, int a2.To, int a2.Qty, int a2.Amount, int a2.Ref, lst 1 fI a2.Refs]]⟩ : AObj)) (yl_store rfl sh3 rfl rfl rfl rfl rfl rfl rfl rfl rfl) rfl) (fun _ h => h) (fun _ _ => trivial)) (by rintro _ _ ⟨rfl, rfl⟩; exact ⟨rfl, trivial⟩) ?_; rintro _ _ ⟨rfl, rfl⟩
  refine eF fo37_2 ?_
  refine de_eff0 rfl rfl rfl rfl (Yield.weak (yl_ob (ob' := (⟨37, 9, true, true, v4, [[int a2.Kind, int x14.Entity, int x14.Item, int a2.Loc, int a2.To, int a2.Qty, int a2.Amount, int a2.Ref, lst 1 fI a2.Refs]]⟩ : AObj)) (yl_store rfl sh3 rfl rfl rfl rfl rfl rfl rfl rfl rfl) rfl) (fun _ h => h) (fun _ _ => trivial)) (by rintro _ _ ⟨rfl, rfl⟩; exact ⟨rfl, trivial⟩) ?_; rintro _ _ ⟨rfl, rfl⟩
  refine eF fo37_3 ?_
  refine de_eff0 rfl rfl rfl rfl (Yield.weak (yl_ob (ob' := (⟨37, 9, true, true, v4, [[int a2.Kind, int x14.Entity, int x14.Item, int x14.Loc, int a2.To, int a2.Qty, int a2.Amount, int a2.Ref, lst 1 fI a2.Refs]]⟩ : AObj)) (yl_store rfl sh3 rfl rfl rfl rfl rfl rfl rfl rfl rfl) rfl) (fun _ h => h) (fun _ _ => trivial)) (by rintro _ _ ⟨rfl, rfl⟩; exact trivial) ?_; rintro _ _ ⟨rfl, rfl⟩
  refine de_nil (hK _ ?_)
  refine tc tbk 1 (.mk ?_)
  exact lfE h1 () leA
  replace h1 := ct h1
  refine tc tbk 4 (.mk ?_)
  refine sS ⟨31, 10, true, true, v5, [(GState.av a1)]⟩ sh31 ?_
  refine tr tbk 2 (.mk ?_)
  obtain ⟨c15, hX, hj⟩ := esc_e h1; subst hj; replace h0 := hX.trans (sel_r h0)
  obtain rfl := nxt_e h0
  refine wR hret (rC sh31 (rT .nil)) ?_
  exact .refl _
  rintro ⟨y1_1, y1_2⟩ _ h0
  replace h0 := p2_e h0
  refine tc tbk 8 (.mk ?_)
  obtain ⟨x16, e16, h0⟩ := bind_e h0
  refine sC cal71 (d_stock_Ready_c e16) ?_
  refine tr tbk 5 (.mk ?_)
  refine nb tbk h0 fun x17 h0 => ?_
  refine tr tbk 1 (.mk ?_)
  replace h0 := asrt_e h0
  obtain ⟨rfl, h0⟩ := h0
  refine tc tbk 6 (.mk ?_)
  refine sA 5 z31 fun v18 => ?_
  refine sS ⟨31, 10, true, true, v18, [(GState.av a1)]⟩ sh31 ?_
  refine tr tbk 8 (.mk ?_)
  refine nb tbk h0 fun x19 h0 => ?_
  refine tr tbk 2 (.mk ?_)
  replace h0 := asrt_e h0
  obtain ⟨rfl, h0⟩ := h0
  refine tc tbk 4 (.mk ?_)
  obtain ⟨x20, e20, h0⟩ := bind_e h0
  refine sC cal80 (d_sell_sell_c e20) ?_
  refine tr tbk 3 (.mk ?_)
  refine sS ⟨31, 10, true, true, v18, [(GState.av x20.1)]⟩ sh31 ?_
  refine tr tbk 7 (.mk ?_)
  refine nb tbk h0 fun x21 h0 => ?_
  refine tr tbk 1 (.mk ?_)
  cases x21
  replace h0 := cf h0
  refine tc tbk 5 (.mk ?_)
  refine sS ⟨31, 10, true, true, v5, [(GState.av x20.1)]⟩ sh31 ?_
  refine tr tbk 2 (.mk ?_)
  obtain rfl := nxt_e h0
  refine wR hret (rC sh31 (rT .nil)) ?_
  exact .refl _
  replace h0 := ct h0
  refine tc tbk 5 (.mk ?_)
  refine sS ⟨31, 10, true, true, v5, [(GState.av a1)]⟩ sh31 ?_
  refine tr tbk 2 (.mk ?_)
  obtain rfl := nxt_e h0
  refine wR hret (rC sh31 (rT .nil)) ?_
  exact .refl _
def d_fifo_wrong (a1 : GLayer) : Option (Bool) :=
(show Option (Bool) from
bnd (decide (a1.Qty < 1)) fun x4 =>
cond x4 (some (true : Bool)) (bnd (decide (a1.Qty > 288230376151711744)) fun x5 =>
cond x5 (some (true : Bool)) (bnd (decide (a1.Value < 0)) fun x6 =>
cond x6 (some (true : Bool)) (bnd (decide (a1.Value > 288230376151711744)) fun x7 =>
cond x7 (some (true : Bool)) (bnd (decide (a1.Profit < (-288230376151711744))) fun x8 =>
cond x8 (some (true : Bool)) (bnd (decide (a1.Profit > 288230376151711744)) fun x9 =>
some (x9 : Bool))))))).bind <| fun y0_1 =>
some ((y0_1 : Bool))
theorem d_fifo_wrong_c {a1 : GLayer} {r : Bool} (h0 : d_fifo_wrong a1 = some r) : PP Tryz.prog 273 [.agg (GLayer.av a1)] (fun y => y = boo r) := by
  unfold d_fifo_wrong at h0
  refine pp_of_pc (R0 := fun y H => Cv (frzH H) y (boo r)) ?_ (fun y H hc => ⟨_, rfl, pvB r, hc⟩)
  refine pcw (c := _) Tryz.func273 rfl rfl ?_; intro Q hret hnorm
  refine tc tbk 2 (.mk ?_)
  refine sB 1 fun v2 => ?_
  refine tr tbk 3 (.mk ?_)
  refine jn h0 [] [] (fun (a : Bool) (k : Unit) => [(2, boo a)]) (fun a k => []) ⟨fun j3 h1 => ?_, ?_⟩
  refine tc tbk 3 (.mk ?_)
  refine nb tbk h1 fun x4 h1 => ?_
  refine tr tbk 1 (.mk ?_)
  cases x4
  replace h1 := cf h1
  refine tr tbk 2 (.mk ?_)
  refine nb tbk h1 fun x5 h1 => ?_
  refine tr tbk 2 (.mk ?_)
  cases x5
  replace h1 := cf h1
  refine tr tbk 2 (.mk ?_)
  refine nb tbk h1 fun x6 h1 => ?_
  refine tr tbk 2 (.mk ?_)
  cases x6
  replace h1 := cf h1
  refine tr tbk 2 (.mk ?_)
  refine nb tbk h1 fun x7 h1 => ?_
  refine tr tbk 2 (.mk ?_)
  cases x7
  replace h1 := cf h1
  refine tr tbk 2 (.mk ?_)
  refine nb tbk h1 fun x8 h1 => ?_
  refine tr tbk 2 (.mk ?_)
  cases x8
  replace h1 := cf h1
  refine tr tbk 2 (.mk ?_)
  refine nb tbk h1 fun x9 h1 => ?_
  refine tr tbk 3 (.mk ?_)
  exact lf h1 () leA
  replace h1 := ct h1
  refine tr tbk 6 (.mk ?_)
  exact lf h1 () leA
  replace h1 := ct h1
  refine tr tbk 11 (.mk ?_)
  exact lf h1 () leA
  replace h1 := ct h1
  refine tr tbk 16 (.mk ?_)
  exact lf h1 () leA
  replace h1 := ct h1
  refine tr tbk 21 (.mk ?_)
  exact lf h1 () leA
  replace h1 := ct h1
  refine tr tbk 26 (.mk ?_)
  exact lf h1 () leA
  rintro y0_1 _ h0
  obtain rfl := nxt_e h0
  refine wR hret (rT .nil) ?_
  exact .refl _
def d_fifo_Total_L0 (a1 : List GLayer) : Nat → Int → (List Int) → (List Int) → (List Int) → Option ((List Int) × (List Int) × (List Int))
  | 0, _, _, _, _ => none
  | n + 1, y0_4, y0_5, y0_6, y0_7 =>
    bnd (decide (y0_4 < (a1.length : Int))) fun x7 =>
    cond x7 ((ix a1 y0_4).bind fun x8 =>
    bnd (y0_5 ++ ([x8.Qty] : List Int)) fun x10 =>
    asrt (x10.length ≤ 68719476736) <|
    bnd (y0_6 ++ ([x8.Value] : List Int)) fun x13 =>
    asrt (x13.length ≤ 68719476736) <|
    bnd (y0_7 ++ ([x8.Profit] : List Int)) fun x16 =>
    asrt (x16.length ≤ 68719476736) <|
    bnd (w64 (y0_4 + 1)) fun x19 =>
    d_fifo_Total_L0 a1 n (x19 : Int) (x10 : List Int) (x13 : List Int) (x16 : List Int)) (some ((y0_5 : List Int), (y0_6 : List Int), (y0_7 : List Int)))
def d_fifo_Total (n : Nat) (a1 : List GLayer) : Option (GLayer × Int) :=
(show Option ((List Int) × (List Int) × (List Int)) from
d_fifo_Total_L0 a1 n (0 : Int) (([] : List Int) : List Int) (([] : List Int) : List Int) (([] : List Int) : List Int)).bind <| p2 fun (y1_4 : List Int) (q0 : (List Int) × (List Int)) => (p2 fun (y1_5 : List Int) (y1_6 : List Int) =>
(show Option (GLayer) from
(d_money_Sum n y1_4).bind fun x23 =>
bnd (decide (x23.2 ≠ 0)) fun x24 =>
asrt (x24 = false) <|
(d_money_Sum n y1_5).bind fun x26 =>
bnd (decide (x26.2 ≠ 0)) fun x27 =>
asrt (x27 = false) <|
(d_money_Sum n y1_6).bind fun x29 =>
bnd (decide (x29.2 ≠ 0)) fun x30 =>
asrt (x30 = false) <|
some ((⟨x23.1, x26.1, x29.1⟩ : GLayer) : GLayer)).bind <| fun y2_1 =>
some ((y2_1 : GLayer), (0 : Int))) q0
theorem d_fifo_Total_c {n : Nat} {a1 : List GLayer} {r : GLayer × Int} (h0 : d_fifo_Total n a1 = some r) : PP Tryz.prog 171 [lst 3 GLayer.av a1] (fun y => y = .tup [.agg (GLayer.av r.1), int r.2]) := by
  unfold d_fifo_Total at h0
  refine pp_of_pc (R0 := fun y H => Cv (frzH H) y (.tup [.agg (GLayer.av r.1), int r.2])) ?_ (fun y H hc => ⟨_, rfl, .tup (pvl2 ((fun (a : GLayer) => PV.agg (GLayer.pvc a)) (r.1)) (pvI (r.2))), hc⟩)
  refine pcw (c := _) Tryz.func171 rfl rfl ?_; intro Q hret hnorm
  refine tc tbk 2 (.mk ?_)
  refine sA 1 z57 fun v2 => ?_
  refine tr tbk 12 (.mk ?_)
  refine sY (yv_len_sl rfl Tryz.underlying95 rfl (lst_len _)) ?_
  refine tr tbk 2 (.mk ?_)
  refine jn h0 [2, 3] [1] (fun (a : (List Int) × (List Int) × (List Int)) (k : Nat × Nat × Nat) => [(4, .sl 6 k.1 0 a.1.length), (5, .sl 7 k.2.1 0 a.2.1.length), (6, .sl 8 k.2.2 0 a.2.2.length)]) (fun a k => [(6, ⟨3, 1, true, true, k.1, a.1.map fI⟩), (7, ⟨3, 1, true, true, k.2.1, a.2.1.map fI⟩), (8, ⟨3, 1, true, true, k.2.2, a.2.2.map fI⟩)]) ⟨fun j3 h1 => ?_, ?_⟩
  refine tc tbk 1 (.mk ?_)
  refine c_nilobj 4 6 3 1 rfl rfl ?_; intro v4
  refine c_nilobj 5 7 3 1 rfl rfl ?_; intro v5
  refine c_nilobj 6 8 3 1 rfl rfl ?_; intro v6
  refine lp (fun n (a : Int × (List Int) × (List Int) × (List Int)) => d_fifo_Total_L0 a1 n a.1 a.2.1 a.2.2.1 a.2.2.2) ((0 : Int), (([] : List Int) : List Int), (([] : List Int) : List Int), (([] : List Int) : List Int)) (v4, v5, v6) h1 [2, 3, 14, 15] [1] (fun (a : Int × (List Int) × (List Int) × (List Int)) (k : Nat × Nat × Nat) => [(4, .sl 6 k.1 0 a.2.1.length), (5, .sl 7 k.2.1 0 a.2.2.1.length), (6, .sl 8 k.2.2 0 a.2.2.2.length), (16, int a.1)]) (fun a k => [(6, ⟨3, 1, true, true, k.1, a.2.1.map fI⟩), (7, ⟨3, 1, true, true, k.2.1, a.2.2.1.map fI⟩), (8, ⟨3, 1, true, true, k.2.2, a.2.2.2.map fI⟩)]) (fun _ => rfl) ⟨leA, ?_⟩
  rintro n ⟨y0_4, y0_5, y0_6, y0_7⟩ ⟨w0_1, w0_2, w0_3⟩ hm h1
  replace h1 : d_fifo_Total_L0 a1 (n + 1) y0_4 y0_5 y0_6 y0_7 = some _ := h1
  rw [d_fifo_Total_L0] at h1
  refine tc tbk 2 (.mk ?_)
  refine nb tbk h1 fun x7 h1 => ?_
  refine tr tbk 2 (.mk ?_)
  cases x7
  replace h1 := cf h1
  refine tc tbk 2 (.mk ?_)
  exact lf h1 (w0_1, w0_2, w0_3) leA
  replace h1 := ct h1
  refine tc tbk 6 (.mk ?_)
  obtain ⟨x8, e8, h1⟩ := bind_e h1
  refine sY (yv_ixT rfl Tryz.underlying95 sh57 rfl rfl e8) ?_
  refine tr tbk 1 (.mk ?_)
  refine sA 2 z57 fun v9 => ?_
  refine sS ⟨57, 3, true, true, v9, [[int x8.Qty, int x8.Value, int x8.Profit]]⟩ sh57 ?_
  refine tr tbk 1 (.mk ?_)
  refine c_drawE [0, 0, 2, 6, 15, 0, 0, 64, 192, 511, 0, 0, 2048, 6144, 16383, 32767, 65535, 131071] (rl [(1, [2]), (2, [2]), (6, [2]), (7, [2]), (11, [2]), (12, [2])] []) (rl [(14, [])] [2]) (rl [(4, false), (9, false), (14, false)] true) [0, 1, 2, 3, 5, 6, 7, 8, 10, 11, 12, 13, 4, 9, 14, 15, 16, 17] mixed (by kernel_rfl) ?_; intro K hK
  refine eM ?_
  refine eF fo57_0 ?_
  refine eL sh3 ?_
  refine eP (fun H hH => yv_to (y := lst 1 fI ([x8.Qty] : List Int)) (yv_buildSlice (ps := [(0, _)]) (rows := [[int x8.Qty]]) rfl Tryz.underlying22 bz3 (.cons rfl .nil) (by kernel_rfl) rfl rfl rfl) rfl) ?_
  refine eM ?_
  refine eF fo57_1 ?_
  refine eL sh3 ?_
  refine eP (fun H hH => yv_to (y := lst 1 fI ([x8.Value] : List Int)) (yv_buildSlice (ps := [(0, _)]) (rows := [[int x8.Value]]) rfl Tryz.underlying22 bz3 (.cons rfl .nil) (by kernel_rfl) rfl rfl rfl) rfl) ?_
  refine eM ?_
  refine eF fo57_2 ?_
  refine eL sh3 ?_
  refine eP (fun H hH => yv_to (y := lst 1 fI ([x8.Profit] : List Int)) (yv_buildSlice (ps := [(0, _)]) (rows := [[int x8.Profit]]) rfl Tryz.underlying22 bz3 (.cons rfl .nil) (by kernel_rfl) rfl rfl rfl) rfl) ?_
  obtain ⟨x10, e10, h1⟩ := bnd_e h1
  obtain ⟨p11, h1⟩ := asrt_e h1
  refine de_eff rfl rfl rfl rfl (yl_appT (g := fI) (l := y0_5) (m := ([x8.Qty] : List Int)) .any rfl Tryz.underlying22 bz3 by3 rfl rfl rfl rfl rfl rfl rfl rfl rfl rfl (Eq.symm rfl) (.refl _) (fun _ => rfl) e10 p11) (by rintro _ _ ⟨v12, -, rfl, rfl⟩; exact ⟨rfl, trivial⟩) ?_; rintro _ _ ⟨v12, -, rfl, rfl⟩
  obtain ⟨x13, e13, h1⟩ := bnd_e h1
  obtain ⟨p14, h1⟩ := asrt_e h1
  refine de_eff rfl rfl rfl rfl (yl_appT (g := fI) (l := y0_6) (m := ([x8.Value] : List Int)) .any rfl Tryz.underlying22 bz3 by3 rfl rfl rfl rfl rfl rfl rfl rfl rfl rfl (Eq.symm rfl) (.refl _) (fun _ => rfl) e13 p14) (by rintro _ _ ⟨v15, -, rfl, rfl⟩; exact ⟨rfl, trivial⟩) ?_; rintro _ _ ⟨v15, -, rfl, rfl⟩
  obtain ⟨x16, e16, h1⟩ := bnd_e h1
  obtain ⟨p17, h1⟩ := asrt_e h1
  refine de_eff rfl rfl rfl rfl (yl_appT (g := fI) (l := y0_7) (m := ([x8.Profit] : List Int)) .any rfl Tryz.underlying22 bz3 by3 rfl rfl rfl rfl rfl rfl rfl rfl rfl rfl (Eq.symm rfl) (.refl _) (fun _ => rfl) e16 p17) (by rintro _ _ ⟨v18, -, rfl, rfl⟩; exact trivial) ?_; rintro _ _ ⟨v18, -, rfl, rfl⟩
  iterate 3 refine eA ?_
  refine de_nil (hK _ ?_)
  refine tc tbk 2 (.mk ?_)
  refine ni tbk h1 fun x19 h1 => ?_
  refine tr tbk 2 (.mk ?_)
  exact bk (x19, x10, x13, x16) (v12, v15, v18) h1 leA
  rintro ⟨y1_4, y1_5, y1_6⟩ ⟨w1_1, w1_2, w1_3⟩ h0
  replace h0 := p2_e h0
  replace h0 := p2_e h0
  refine tc tbk 2 (.mk ?_)
  refine sA 9 z57 fun v20 => ?_
  refine tr tbk 13 (.mk ?_)
  refine sY (yv_buildSlice (ps := [(0, _), (1, _), (2, _)]) (rows := [[.pt 9 v20 0 0, .sl 6 w1_1 0 y1_4.length], [.pt 9 v20 0 1, .sl 7 w1_2 0 y1_5.length], [.pt 9 v20 0 2, .sl 8 w1_3 0 y1_6.length]]) rfl Tryz.underlying248 bz247 (.cons rfl (.cons rfl (.cons rfl .nil))) (by kernel_rfl) rfl rfl rfl) ?_
  refine sY (yv_to (y := int 3) (yv_len_sl rfl Tryz.underlying248 rfl (.list _ _)) rfl) ?_
  refine tr tbk 2 (.mk ?_)
  refine jn h0 [2, 3, 9] [1] (fun (a : GLayer) (k : Unit) => []) (fun a k => [(9, ⟨57, 3, true, true, v20, [[int a.Qty, int a.Value, int a.Profit]]⟩)]) ⟨fun j21 h1 => ?_, ?_⟩
  refine tc tbk 4 (.mk ?_)
  refine sY (yv_to (y := boo true) (yv_lss rfl rfl rfl) (congrArg boo (by decide))) ?_
  refine tr tbk 8 (.mk ?_)
  refine sY (yv_indexAddr (j := 0) rfl Tryz.underlying248 sh247 rfl rfl rfl (.list rfl)) ?_
  refine tr tbk 1 (.mk ?_)
  refine sA 10 z247 fun v22 => ?_
  refine sS ⟨247, 2, true, true, v22, [[.pt 9 v20 0 0, .sl 6 w1_1 0 y1_4.length]]⟩ sh247 ?_
  refine tr tbk 5 (.mk ?_)
  obtain ⟨x23, e23, h1⟩ := bind_e h1
  refine sY (yv_callT (v := .tup [int x23.1, int x23.2]) rfl rfl (.cons rfl .nil) cal153 (.cons (cv_lst rfl rfl rfl rfl rfl (Eq.symm rfl)) .nil) (d_money_Sum_c e23) rfl) ?_
  refine tr tbk 10 (.mk ?_)
  refine nb tbk h1 fun x24 h1 => ?_
  refine tr tbk 1 (.mk ?_)
  replace h1 := asrt_e h1
  obtain ⟨rfl, h1⟩ := h1
  refine tc tbk 7 (.mk ?_)
  refine sS ⟨57, 3, true, true, v20, [[int x23.1, int 0, int 0]]⟩ sh3 ?_
  refine tr tbk 3 (.mk ?_)
  refine sY (yv_add (r := 1) rfl rfl rfl (by decide)) ?_
  refine tr tbk 5 (.mk ?_)
  refine sY (yv_to (y := boo true) (yv_lss rfl rfl rfl) (congrArg boo (by decide))) ?_
  refine tr tbk 8 (.mk ?_)
  refine sY (yv_indexAddr (j := 1) rfl Tryz.underlying248 sh247 rfl rfl rfl (.list rfl)) ?_
  refine tr tbk 1 (.mk ?_)
  refine sA 11 z247 fun v25 => ?_
  refine sS ⟨247, 2, true, true, v25, [[.pt 9 v20 0 1, .sl 7 w1_2 0 y1_5.length]]⟩ sh247 ?_
  refine tr tbk 5 (.mk ?_)
  obtain ⟨x26, e26, h1⟩ := bind_e h1
  refine sY (yv_callT (v := .tup [int x26.1, int x26.2]) rfl rfl (.cons rfl .nil) cal153 (.cons (cv_lst rfl rfl rfl rfl rfl (Eq.symm rfl)) .nil) (d_money_Sum_c e26) rfl) ?_
  refine tr tbk 10 (.mk ?_)
  refine nb tbk h1 fun x27 h1 => ?_
  refine tr tbk 1 (.mk ?_)
  replace h1 := asrt_e h1
  obtain ⟨rfl, h1⟩ := h1
  refine tc tbk 7 (.mk ?_)
  refine sS ⟨57, 3, true, true, v20, [[int x23.1, int x26.1, int 0]]⟩ sh3 ?_
  refine tr tbk 3 (.mk ?_)
  refine sY (yv_add (r := 2) rfl rfl rfl (by decide)) ?_
  refine tr tbk 5 (.mk ?_)
  refine sY (yv_to (y := boo true) (yv_lss rfl rfl rfl) (congrArg boo (by decide))) ?_
  refine tr tbk 8 (.mk ?_)
  refine sY (yv_indexAddr (j := 2) rfl Tryz.underlying248 sh247 rfl rfl rfl (.list rfl)) ?_
  refine tr tbk 1 (.mk ?_)
  refine sA 12 z247 fun v28 => ?_
  refine sS ⟨247, 2, true, true, v28, [[.pt 9 v20 0 2, .sl 8 w1_3 0 y1_6.length]]⟩ sh247 ?_
  refine tr tbk 5 (.mk ?_)
  obtain ⟨x29, e29, h1⟩ := bind_e h1
  refine sY (yv_callT (v := .tup [int x29.1, int x29.2]) rfl rfl (.cons rfl .nil) cal153 (.cons (cv_lst rfl rfl rfl rfl rfl (Eq.symm rfl)) .nil) (d_money_Sum_c e29) rfl) ?_
  refine tr tbk 10 (.mk ?_)
  refine nb tbk h1 fun x30 h1 => ?_
  refine tr tbk 1 (.mk ?_)
  replace h1 := asrt_e h1
  obtain ⟨rfl, h1⟩ := h1
  refine tc tbk 7 (.mk ?_)
  refine sS ⟨57, 3, true, true, v20, [[int x23.1, int x26.1, int x29.1]]⟩ sh3 ?_
  refine tr tbk 3 (.mk ?_)
  refine sY (yv_add (r := 3) rfl rfl rfl (by decide)) ?_
  refine tr tbk 5 (.mk ?_)
  refine sY (yv_to (y := boo false) (yv_lss rfl rfl rfl) (congrArg boo (by decide))) ?_
  refine tr tbk 4 (.mk ?_)
  exact lf h1 () leA
  rintro y2_1 _ h0
  refine tc tbk 3 (.mk ?_)
  refine sS ⟨57, 3, true, true, v2, [[int y2_1.Qty, int y2_1.Value, int y2_1.Profit]]⟩ sh57 ?_
  refine tr tbk 2 (.mk ?_)
  obtain rfl := nxt_e h0
  refine wR hret (rC sh57 (rT .nil)) ?_
  exact .refl _
def d_fifo_steady_L0 (a1 : List GLayer) : Nat → Int → (List Int) → Option ((List Int))
  | 0, _, _ => none
  | n + 1, y0_2, y0_3 =>
    bnd (decide (y0_2 < (a1.length : Int))) fun x4 =>
    cond x4 ((ix a1 y0_2).bind fun x5 =>
    bnd (w64 (0 - x5.Profit)) fun x7 =>
    bnd (if x7 > x5.Profit then x7 else x5.Profit) fun x8 =>
    bnd (y0_3 ++ ([x8] : List Int)) fun x9 =>
    asrt (x9.length ≤ 68719476736) <|
    bnd (w64 (y0_2 + 1)) fun x12 =>
    d_fifo_steady_L0 a1 n (x12 : Int) (x9 : List Int)) (some (y0_3 : List Int))
def d_fifo_steady (n : Nat) (a1 : List GLayer) : Option (Bool) :=
(show Option ((List Int)) from
d_fifo_steady_L0 a1 n (0 : Int) (([] : List Int) : List Int)).bind <| fun y1_2 =>
(d_money_Sum n y1_2).bind fun x13 =>
bnd (decide (x13.2 = 0)) fun x14 =>
some ((x14 : Bool))
theorem d_fifo_steady_c {n : Nat} {a1 : List GLayer} {r : Bool} (h0 : d_fifo_steady n a1 = some r) : PP Tryz.prog 274 [lst 3 GLayer.av a1] (fun y => y = boo r) := by
  unfold d_fifo_steady at h0
  refine pp_of_pc (R0 := fun y H => Cv (frzH H) y (boo r)) ?_ (fun y H hc => ⟨_, rfl, pvB r, hc⟩)
  refine pcw (c := _) Tryz.func274 rfl rfl ?_; intro Q hret hnorm
  refine tc tbk 12 (.mk ?_)
  refine sY (yv_len_sl rfl Tryz.underlying95 rfl (lst_len _)) ?_
  refine tr tbk 2 (.mk ?_)
  refine jn h0 [2] [] (fun (a : (List Int)) (k : Nat) => [(3, .sl 3 k 0 a.length)]) (fun a k => [(3, ⟨3, 1, true, true, k, a.map fI⟩)]) ⟨fun j2 h1 => ?_, ?_⟩
  refine tc tbk 1 (.mk ?_)
  refine c_nilobj 3 3 3 1 rfl rfl ?_; intro v3
  refine lp (fun n (a : Int × (List Int)) => d_fifo_steady_L0 a1 n a.1 a.2) ((0 : Int), (([] : List Int) : List Int)) v3 h1 [2, 8, 9] [] (fun (a : Int × (List Int)) (k : Nat) => [(3, .sl 3 k 0 a.2.length), (10, int a.1)]) (fun a k => [(3, ⟨3, 1, true, true, k, a.2.map fI⟩)]) (fun _ => rfl) ⟨leA, ?_⟩
  rintro n ⟨y0_2, y0_3⟩ w0_1 hm h1
  replace h1 : d_fifo_steady_L0 a1 (n + 1) y0_2 y0_3 = some _ := h1
  rw [d_fifo_steady_L0] at h1
  refine tc tbk 2 (.mk ?_)
  refine nb tbk h1 fun x4 h1 => ?_
  refine tr tbk 2 (.mk ?_)
  cases x4
  replace h1 := cf h1
  refine tc tbk 2 (.mk ?_)
  exact lf h1 w0_1 leA
  replace h1 := ct h1
  refine tc tbk 6 (.mk ?_)
  obtain ⟨x5, e5, h1⟩ := bind_e h1
  refine sY (yv_ixT rfl Tryz.underlying95 sh57 rfl rfl e5) ?_
  refine tr tbk 1 (.mk ?_)
  refine sA 1 z57 fun v6 => ?_
  refine sS ⟨57, 3, true, true, v6, [[int x5.Qty, int x5.Value, int x5.Profit]]⟩ sh57 ?_
  refine tr tbk 7 (.mk ?_)
  refine ni tbk h1 fun x7 h1 => ?_
  obtain ⟨x8, e8, h1⟩ := bnd_e h1
  refine sY (yv_max rfl rfl rfl e8) ?_
  refine sY (yv_to (y := lst 1 fI ([x8] : List Int)) (yv_buildSlice (ps := [(0, _)]) (rows := [[int x8]]) rfl Tryz.underlying22 bz3 (.cons rfl .nil) (by kernel_rfl) rfl rfl rfl) rfl) ?_
  obtain ⟨x9, e9, h1⟩ := bnd_e h1
  obtain ⟨p10, h1⟩ := asrt_e h1
  refine rse rfl rfl rfl (yl_appT (g := fI) (l := y0_3) (m := ([x8] : List Int)) .any rfl Tryz.underlying22 bz3 by3 rfl rfl rfl rfl rfl rfl rfl rfl rfl rfl (Eq.symm rfl) (.refl _) (fun _ => rfl) e9 p10) ?_; rintro _ _ ⟨v11, -, rfl, rfl⟩
  refine tr tbk 4 (.mk ?_)
  refine ni tbk h1 fun x12 h1 => ?_
  refine tr tbk 2 (.mk ?_)
  exact bk (x12, x9) v11 h1 leA
  rintro y1_2 w1_1 h0
  refine tc tbk 3 (.mk ?_)
  obtain ⟨x13, e13, h0⟩ := bind_e h0
  refine sY (yv_callT (v := .tup [int x13.1, int x13.2]) rfl rfl (.cons rfl .nil) cal153 (.cons (cv_lst rfl rfl rfl rfl rfl (Eq.symm rfl)) .nil) (d_money_Sum_c e13) rfl) ?_
  refine tr tbk 9 (.mk ?_)
  refine nb tbk h0 fun x14 h0 => ?_
  refine tr tbk 2 (.mk ?_)
  obtain rfl := nxt_e h0
  refine wR hret (rT .nil) ?_
  exact .refl _
def d_fifo_Right_L0 (a1 : List GLayer) : Nat → Int → Option ((Unit) ⊕ ((Int)))
  | 0, _ => none
  | n + 1, y0_1 =>
    bnd (decide (y0_1 < (a1.length : Int))) fun x7 =>
    cond x7 ((ix a1 y0_1).bind fun x8 =>
    (d_fifo_wrong x8).bind fun x9 =>
    cond x9 (esc (some (y0_1 : Int))) (bnd (w64 (y0_1 + 1)) fun x10 =>
    d_fifo_Right_L0 a1 n (x10 : Int))) (brk ())
def d_fifo_Right (n : Nat) (a1 : List GLayer) : Option (Bool) :=
(show Option (Bool) from
bnd (decide ((a1.length : Int) > 30)) fun x3 =>
cond x3 (some (true : Bool)) ((show Option ((Bool)) from
(show Option ((Int)) from
(show Option ((Unit) ⊕ ((Int))) from
d_fifo_Right_L0 a1 n (0 : Int)).bind <| sel <| fun _ =>
some ((-1) : Int)).bind <| fun y2_1 =>
bnd (decide (y2_1 ≥ 0)) fun x12 =>
some (x12 : Bool)).bind <| fun y3_1 =>
some (y3_1 : Bool))).bind <| fun y4_1 =>
asrt (y4_1 = false) <|
(d_fifo_Total n a1).bind fun x13 =>
(show Option (Bool) from
bnd (decide (x13.2 = 0)) fun x16 =>
cond x16 ((d_fifo_steady n a1).bind fun x17 =>
some (x17 : Bool)) (some (false : Bool))).bind <| fun y5_1 =>
some ((y5_1 : Bool))
theorem d_fifo_Right_c {n : Nat} {a1 : List GLayer} {r : Bool} (h0 : d_fifo_Right n a1 = some r) : PP Tryz.prog 256 [lst 3 GLayer.av a1] (fun y => y = boo r) := by
  unfold d_fifo_Right at h0
  refine pp_of_pc (R0 := fun y H => Cv (frzH H) y (boo r)) ?_ (fun y H hc => ⟨_, rfl, pvB r, hc⟩)
  refine pcw (c := _) Tryz.func256 rfl rfl ?_; intro Q hret hnorm
  refine tc tbk 6 (.mk ?_)
  refine jn h0 [0, 2] [] (fun (a : Bool) (k : Unit) => [(11, boo a)]) (fun a k => []) ⟨fun j2 h1 => ?_, ?_⟩
  refine tc tbk 2 (.mk ?_)
  refine sY (yv_len_sl rfl Tryz.underlying95 rfl (lst_len _)) ?_
  refine nb tbk h1 fun x3 h1 => ?_
  refine tr tbk 1 (.mk ?_)
  cases x3
  replace h1 := cf h1
  refine tr tbk 1 (.mk ?_)
  obtain ⟨j4, h2, h1⟩ := bind_e h1
  refine rse (Out := fun y H' => (∃ (a : Bool) (k : Unit), a = j4 ∧ y = boo a ∧ H' = hk [])) rfl rfl rfl (yl_call rfl rfl (.cons rfl (.cons rfl .nil)) cal272 ?_) ?_
  refine pcw (c := _) Tryz.func272 rfl rfl ?_; intro Q hret hnorm
  refine tc tbk 8 (.mk ?_)
  obtain ⟨j5, h3, h2⟩ := bind_e h2
  refine rse (Out := fun y H' => (∃ (a : Int) (k : Unit), a = j5 ∧ y = int a ∧ H' = hk [])) rfl rfl rfl (yl_call rfl rfl (.cons rfl (.cons rfl .nil)) cal282 ?_) ?_
  refine pcw (c := _) Tryz.func282 rfl rfl ?_; intro Q hret hnorm
  refine tc tbk 8 (.mk ?_)
  refine sY (yv_len_sl rfl Tryz.underlying95 rfl (lst_len _)) ?_
  refine tr tbk 2 (.mk ?_)
  refine jnE h3 [4] [] (fun (a : Unit) (k : Unit) => []) (fun a k => []) ⟨fun j6 h4 h3 => ?_, ?_⟩
  refine tc tbk 1 (.mk ?_)
  refine lp (fun n (a : Int) => d_fifo_Right_L0 a1 n a) (0 : Int) () h4 [0, 1, 4, 7] [] (fun (a : Int) (k : Unit) => [(8, int a)]) (fun a k => []) (fun _ => rfl) ⟨leA, ?_⟩
  rintro n y0_1 _ hm h4
  replace h4 : d_fifo_Right_L0 a1 (n + 1) y0_1 = some _ := h4
  rw [d_fifo_Right_L0] at h4
  refine tc tbk 2 (.mk ?_)
  refine nb tbk h4 fun x7 h4 => ?_
  refine tr tbk 2 (.mk ?_)
  cases x7
  replace h4 := cf h4
  refine tc tbk 2 (.mk ?_)
  exact lfE h4 () leA
  replace h4 := ct h4
  refine tc tbk 14 (.mk ?_)
  obtain ⟨x8, e8, h4⟩ := bind_e h4
  refine sY (yv_ixT rfl Tryz.underlying95 sh57 rfl rfl e8) ?_
  refine tr tbk 1 (.mk ?_)
  obtain ⟨x9, e9, h4⟩ := bind_e h4
  refine sC cal273 (d_fifo_wrong_c e9) ?_
  refine tr tbk 1 (.mk ?_)
  cases x9
  replace h4 := cf h4
  refine tc tbk 4 (.mk ?_)
  refine ni tbk h4 fun x10 h4 => ?_
  refine tr tbk 2 (.mk ?_)
  exact bk x10 () h4 leA
  replace h4 := ct h4
  refine tc tbk 6 (.mk ?_)
  obtain ⟨c11, hX, hj⟩ := esc_e h4; subst hj; replace h3 := hX.trans (sel_r h3)
  obtain rfl := nxt_e h3
  refine w_ret (hret _ _ (hk []) (.tmp rfl .nil) (fun _ _ h => nomatch h) ?_)
  exact ⟨y0_1, (), rfl, rfl, rfl⟩
  rintro _ _ h3
  refine tc tbk 4 (.mk ?_)
  obtain rfl := nxt_e h3
  refine w_ret (hret _ _ (hk []) (.tmp rfl .nil) (fun _ _ h => nomatch h) ?_)
  exact ⟨(-1), (), rfl, rfl, rfl⟩
  rintro y _ ⟨y2_1, _, rfl, hc, rfl⟩
  subst hc
  refine nb tbk h2 fun x12 h2 => ?_
  refine tr tbk 2 (.mk ?_)
  obtain rfl := nxt_e h2
  refine w_ret (hret _ _ (hk []) (.tmp rfl .nil) (fun _ _ h => nomatch h) ?_)
  exact ⟨x12, (), rfl, rfl, rfl⟩
  rintro y _ ⟨y3_1, _, rfl, hc, rfl⟩
  subst hc
  refine tr tbk 2 (.mk ?_)
  exact lf h1 () leA
  replace h1 := ct h1
  refine tr tbk 4 (.mk ?_)
  exact lf h1 () leA
  rintro y4_1 _ h0
  replace h0 := asrt_e h0
  obtain ⟨rfl, h0⟩ := h0
  refine tc tbk 5 (.mk ?_)
  obtain ⟨x13, e13, h0⟩ := bind_e h0
  refine sC cal171 (d_fifo_Total_c e13) ?_
  refine tr tbk 3 (.mk ?_)
  refine sA 1 z57 fun v14 => ?_
  refine sS ⟨57, 3, true, true, v14, [[int x13.1.Qty, int x13.1.Value, int x13.1.Profit]]⟩ sh57 ?_
  refine tr tbk 3 (.mk ?_)
  refine jn h0 [] [] (fun (a : Bool) (k : Unit) => [(2, boo a)]) (fun a k => []) ⟨fun j15 h1 => ?_, ?_⟩
  refine tc tbk 2 (.mk ?_)
  refine nb tbk h1 fun x16 h1 => ?_
  refine tr tbk 1 (.mk ?_)
  cases x16
  replace h1 := cf h1
  refine tr tbk 5 (.mk ?_)
  exact lf h1 () leA
  replace h1 := ct h1
  refine tr tbk 1 (.mk ?_)
  obtain ⟨x17, e17, h1⟩ := bind_e h1
  refine sC cal274 (d_fifo_steady_c e17) ?_
  refine tr tbk 3 (.mk ?_)
  exact lf h1 () leA
  rintro y5_1 _ h0
  obtain rfl := nxt_e h0
  refine wR hret (rT .nil) ?_
  exact .refl _
def d_fifo_In (n : Nat) (a1 : List GLayer) (a2 : GLayer) : Option ((List GLayer) × Int) :=
asrt (a1.length ≤ 68719476736) <|
(show Option (Bool) from
bnd (decide (a2.Qty < 1)) fun x7 =>
cond x7 (some (true : Bool)) (bnd (decide (a2.Value < 0)) fun x8 =>
some (x8 : Bool))).bind <| fun y0_1 =>
asrt (y0_1 = false) <|
bnd (decide ((a1.length : Int) ≥ 30)) fun x9 =>
asrt (x9 = false) <|
asrt (a1.length ≤ 68719476736) <|
bnd (a1 ++ ([a2] : List GLayer)) fun x12 =>
asrt (x12.length ≤ 68719476736) <|
(d_fifo_Right n x12).bind fun x15 =>
bnd (!x15) fun x16 =>
asrt (x16 = false) <|
some ((x12 : List GLayer), (0 : Int))
theorem d_fifo_In_c {n : Nat} {a1 : List GLayer} {a2 : GLayer} {r : (List GLayer) × Int} (h0 : d_fifo_In n a1 a2 = some r) : PP Tryz.prog 258 [lst 3 GLayer.av a1, .agg (GLayer.av a2)] (fun y => y = .tup [lst 3 GLayer.av r.1, int r.2]) := by
  unfold d_fifo_In at h0
  refine pp_of_pc (R0 := fun y H => Cv (frzH H) y (.tup [lst 3 GLayer.av r.1, int r.2])) ?_ (fun y H hc => ⟨_, rfl, .tup (pvl2 ((pvLs GLayer.pvc) (r.1)) (pvI (r.2))), hc⟩)
  refine pcw (c := _) Tryz.func258 rfl rfl ?_; intro Q hret hnorm
  refine tc tbk 2 (.mk ?_)
  refine sB 1 fun v3 => ?_
  refine tr tbk 6 (.mk ?_)
  obtain ⟨p4, h0⟩ := asrt_e h0
  refine rse rfl rfl rfl (yl_call rfl rfl (.cons rfl .nil) cal211 (pc_cv (clone211_c (id := 2) (l := a1) rfl p4) (.cons (.refl _) .nil))) ?_; rintro _ _ ⟨v5, rfl, rfl⟩
  refine tr tbk 5 (.mk ?_)
  refine jn h0 [0, 3, 4, 5] [1, 2] (fun (a : Bool) (k : Unit) => [(9, boo a)]) (fun a k => []) ⟨fun j6 h1 => ?_, ?_⟩
  refine tc tbk 3 (.mk ?_)
  refine nb tbk h1 fun x7 h1 => ?_
  refine tr tbk 1 (.mk ?_)
  cases x7
  replace h1 := cf h1
  refine tr tbk 2 (.mk ?_)
  refine nb tbk h1 fun x8 h1 => ?_
  refine tr tbk 3 (.mk ?_)
  exact lf h1 () leA
  replace h1 := ct h1
  refine tr tbk 6 (.mk ?_)
  exact lf h1 () leA
  rintro y0_1 _ h0
  replace h0 := asrt_e h0
  obtain ⟨rfl, h0⟩ := h0
  refine tc tbk 4 (.mk ?_)
  refine sY (yv_len_sl rfl Tryz.underlying95 rfl (.sl rfl rfl)) ?_
  refine nb tbk h0 fun x9 h0 => ?_
  refine tr tbk 2 (.mk ?_)
  replace h0 := asrt_e h0
  obtain ⟨rfl, h0⟩ := h0
  refine tc tbk 4 (.mk ?_)
  refine c_drawE [0, 1, 0, 4, 15, 31] (rl [(2, [1])] []) (rl [(4, [])] [1]) (rl [(1, false), (4, false)] true) [0, 2, 3, 1, 4, 5] mixed (by kernel_rfl) ?_; intro K hK
  refine eM ?_
  refine eL sh57 ?_
  refine eP (fun H hH => yv_to (y := lst 3 GLayer.av ([a2] : List GLayer)) (yv_buildSlice (ps := [(0, _)]) (rows := [[int a2.Qty, int a2.Value, int a2.Profit]]) rfl Tryz.underlying95 bz57 (.cons rfl .nil) (by kernel_rfl) rfl rfl rfl) rfl) ?_
  obtain ⟨p10, h0⟩ := asrt_e h0
  refine de_eff rfl rfl rfl rfl (Yield.frz 2 rfl (yl_call rfl rfl (.cons rfl .nil) cal211 (pc_cv (clone211_c (id := 3) (l := a1) rfl p10) (.cons (cv_lst rfl rfl rfl rfl rfl (Eq.symm rfl)) .nil)))) (by rintro _ _ ⟨v11, rfl, rfl⟩; exact ⟨rfl, trivial⟩) ?_; rintro _ _ ⟨v11, rfl, rfl⟩
  obtain ⟨x12, e12, h0⟩ := bnd_e h0
  obtain ⟨p13, h0⟩ := asrt_e h0
  refine de_eff rfl rfl rfl rfl (yl_appT (g := GLayer.av) (l := a1) (m := ([a2] : List GLayer)) .any rfl Tryz.underlying95 bz57 by57 rfl rfl rfl rfl rfl rfl rfl rfl rfl rfl (Eq.symm rfl) (.refl _) (fun _ => rfl) e12 p13) (by rintro _ _ ⟨v14, -, rfl, rfl⟩; exact trivial) ?_; rintro _ _ ⟨v14, -, rfl, rfl⟩
  refine eA ?_
  refine de_nil (hK _ ?_)
  refine tc tbk 4 (.mk ?_)
  obtain ⟨x15, e15, h0⟩ := bind_e h0
  refine sY (yv_callT (v := boo x15) rfl rfl (.cons rfl .nil) cal256 (.cons (cv_lst rfl rfl rfl rfl rfl (Eq.symm rfl)) .nil) (d_fifo_Right_c e15) rfl) ?_
  refine nb tbk h0 fun x16 h0 => ?_
  refine tr tbk 1 (.mk ?_)
  replace h0 := asrt_e h0
  obtain ⟨rfl, h0⟩ := h0
  refine tc tbk 8 (.mk ?_)
  obtain rfl := nxt_e h0
  refine wR hret (rT (rT .nil)) ?_
  exact CvL.tup (.cons (cv_lst rfl rfl rfl rfl rfl (Eq.symm rfl)) (.cons (.refl _) .nil))
def d_mavg_In (n : Nat) (a1 : List GLayer) (a2 : GLayer) : Option ((List GLayer) × Int) :=
(show Option ((Unit)) from
some ()).bind <| fun _ =>
(d_fifo_In n a1 a2).bind fun x6 =>
bnd (decide (x6.2 ≠ 0)) fun x7 =>
asrt (x7 = false) <|
(show Option ((Unit)) from
some ()).bind <| fun _ =>
(d_fifo_Total n x6.1).bind fun x10 =>
bnd (decide (x10.2 ≠ 0)) fun x12 =>
asrt (x12 = false) <|
some ((([x10.1] : List GLayer) : List GLayer), (0 : Int))
theorem d_mavg_In_c {n : Nat} {a1 : List GLayer} {a2 : GLayer} {r : (List GLayer) × Int} (h0 : d_mavg_In n a1 a2 = some r) : PP Tryz.prog 306 [lst 3 GLayer.av a1, .agg (GLayer.av a2)] (fun y => y = .tup [lst 3 GLayer.av r.1, int r.2]) := by
  unfold d_mavg_In at h0
  refine pp_of_pc (R0 := fun y H => Cv (frzH H) y (.tup [lst 3 GLayer.av r.1, int r.2])) ?_ (fun y H hc => ⟨_, rfl, .tup (pvl2 ((pvLs GLayer.pvc) (r.1)) (pvI (r.2))), hc⟩)
  refine pcw (c := _) Tryz.func306 rfl rfl ?_; intro Q hret hnorm
  refine tc tbk 2 (.mk ?_)
  refine sB 1 fun v3 => ?_
  refine tr tbk 4 (.mk ?_)
  refine c_drawE [0, 1, 0, 0, 15, 31, 63, 63, 127, 511] (rl [(3, [1])] []) (fun i => [1]) (rl [(0, false)] true) [2, 3, 0, 1, 4, 5, 6, 7, 8, 9] mixed (by kernel_rfl) ?_; intro K hK
  refine eM ?_
  refine eL sh57 ?_
  obtain ⟨j4, h1, h0⟩ := bind_e h0
  refine de_eff (Out := fun y H' => (∃ (a : Unit) (k : Unit), a = j4 ∧ y = .agg [.fn (.func 258) [] [], .fn (.func 259) [] [], .fn (.func 171) [] []] ∧ H' = hk [(1, ⟨57, 3, true, true, v3, [[int a2.Qty, int a2.Value, int a2.Profit]]⟩)])) rfl rfl rfl rfl (yl_call rfl rfl .nil cal225 ?_) (by rintro y _ ⟨_, _, rfl, hc, rfl⟩ <;> exact ⟨rfl, trivial⟩) ?_
  refine pcw (c := _) Tryz.func225 rfl rfl ?_; intro Q hret hnorm
  refine tc tbk 2 (.mk ?_)
  refine sA 2 z244 fun v5 => ?_
  refine tr tbk 4 (.mk ?_)
  refine sS ⟨244, 3, true, true, v5, [[.fn (.func 258) [] [], .fn (.func 259) [] [], .fn (.func 171) [] []]]⟩ sh244 ?_
  refine tr tbk 1 (.mk ?_)
  obtain rfl := nxt_e h1
  refine w_ret (hret _ _ (hk [(1, ⟨57, 3, true, true, v3, [[int a2.Qty, int a2.Value, int a2.Profit]]⟩)]) (.cell rfl (.pt rfl rfl rfl) sh244 rfl .nil) (HK.le ⟨rfl, trivial⟩) ?_)
  exact ⟨(), (), rfl, rfl, rfl⟩
  rintro y _ ⟨_, _, rfl, hc, rfl⟩
  subst hc
  refine eP (fun H hH => yv_field rfl fp244_0 sh242 rfl rfl) ?_
  obtain ⟨x6, e6, h0⟩ := bind_e h0
  refine eP (fun H hH => yv_callP rfl rfl (.cons rfl (.cons rfl .nil)) cal258 (CvL.refl _) (d_fifo_In_c e6)) ?_
  refine eM ?_
  iterate 2 refine eX ?_
  iterate 2 refine eA ?_
  refine de_nil (hK _ ?_)
  refine tc tbk 4 (.mk ?_)
  refine nb tbk h0 fun x7 h0 => ?_
  refine tr tbk 1 (.mk ?_)
  replace h0 := asrt_e h0
  obtain ⟨rfl, h0⟩ := h0
  refine tc tbk 4 (.mk ?_)
  obtain ⟨j8, h1, h0⟩ := bind_e h0
  refine rse (Out := fun y H' => (∃ (a : Unit) (k : Unit), a = j8 ∧ y = .agg [.fn (.func 258) [] [], .fn (.func 259) [] [], .fn (.func 171) [] []] ∧ H' = hk [(1, ⟨57, 3, true, true, v3, [[int a2.Qty, int a2.Value, int a2.Profit]]⟩)])) rfl rfl rfl (yl_call rfl rfl .nil cal225 ?_) ?_
  refine pcw (c := _) Tryz.func225 rfl rfl ?_; intro Q hret hnorm
  refine tc tbk 2 (.mk ?_)
  refine sA 3 z244 fun v9 => ?_
  refine tr tbk 4 (.mk ?_)
  refine sS ⟨244, 3, true, true, v9, [[.fn (.func 258) [] [], .fn (.func 259) [] [], .fn (.func 171) [] []]]⟩ sh244 ?_
  refine tr tbk 1 (.mk ?_)
  obtain rfl := nxt_e h1
  refine w_ret (hret _ _ (hk [(1, ⟨57, 3, true, true, v3, [[int a2.Qty, int a2.Value, int a2.Profit]]⟩)]) (.cell rfl (.pt rfl rfl rfl) sh244 rfl .nil) (HK.le ⟨rfl, trivial⟩) ?_)
  exact ⟨(), (), rfl, rfl, rfl⟩
  rintro y _ ⟨_, _, rfl, hc, rfl⟩
  subst hc
  refine tr tbk 2 (.mk ?_)
  obtain ⟨x10, e10, h0⟩ := bind_e h0
  refine sC cal171 (d_fifo_Total_c e10) ?_
  refine tr tbk 3 (.mk ?_)
  refine sA 4 z57 fun v11 => ?_
  refine sS ⟨57, 3, true, true, v11, [[int x10.1.Qty, int x10.1.Value, int x10.1.Profit]]⟩ sh57 ?_
  refine tr tbk 6 (.mk ?_)
  refine nb tbk h0 fun x12 h0 => ?_
  refine tr tbk 1 (.mk ?_)
  replace h0 := asrt_e h0
  obtain ⟨rfl, h0⟩ := h0
  refine tc tbk 5 (.mk ?_)
  refine sY (yv_to (y := lst 3 GLayer.av ([x10.1] : List GLayer)) (yv_buildSlice (ps := [(0, _)]) (rows := [[int x10.1.Qty, int x10.1.Value, int x10.1.Profit]]) rfl Tryz.underlying95 bz57 (.cons rfl .nil) (by kernel_rfl) rfl rfl rfl) rfl) ?_
  refine tr tbk 3 (.mk ?_)
  obtain rfl := nxt_e h0
  refine wR hret (rT (rT .nil)) ?_
  exact .refl _
def d_pavg_In (n : Nat) (a1 : GPool) (a2 : GLayer) : Option (GPool × Int) :=
(d_mavg_In n a1.Layers a2).bind fun x6 =>
(d_pavg_own a1 x6.1).bind fun x7 =>
some ((x7 : GPool), (x6.2 : Int))
theorem d_pavg_In_c {n : Nat} {a1 : GPool} {a2 : GLayer} {r : GPool × Int} (h0 : d_pavg_In n a1 a2 = some r) : PP Tryz.prog 309 [.agg (GPool.av a1), .agg (GLayer.av a2)] (fun y => y = .tup [.agg (GPool.av r.1), int r.2]) := by
  unfold d_pavg_In at h0
  refine pp_of_pc (R0 := fun y H => Cv (frzH H) y (.tup [.agg (GPool.av r.1), int r.2])) ?_ (fun y H hc => ⟨_, rfl, .tup (pvl2 ((fun (a : GPool) => PV.agg (GPool.pvc a)) (r.1)) (pvI (r.2))), hc⟩)
  refine pcw (c := _) Tryz.func309 rfl rfl ?_; intro Q hret hnorm
  refine tc tbk 2 (.mk ?_)
  refine sB 1 fun v3 => ?_
  refine sB 2 fun v4 => ?_
  refine sA 3 z98 fun v5 => ?_
  refine tr tbk 7 (.mk ?_)
  obtain ⟨x6, e6, h0⟩ := bind_e h0
  refine sC cal306 (d_mavg_In_c e6) ?_
  refine tr tbk 10 (.mk ?_)
  obtain ⟨x7, e7, h0⟩ := bind_e h0
  refine sC cal166 (d_pavg_own_c e7) ?_
  refine tr tbk 1 (.mk ?_)
  refine sS ⟨98, 4, true, true, v5, [[lst 3 GLayer.av x7.Layers, int x7.Pend.a0, int x7.Pend.a1, int x7.Pend.a2]]⟩ sh98 ?_
  refine tr tbk 2 (.mk ?_)
  obtain rfl := nxt_e h0
  refine wR hret (rC sh98 (rT .nil)) ?_
  exact .refl _
def d_pool_In (n : Nat) (a1 : Int) (a2 : Int) (a3 : GPool) (a4 : GLayer) : Option (GPool × Int × Int) :=
(show Option ((Unit) ⊕ (Unit)) from
bnd (decide (a1 = 1)) fun x9 =>
asrt (x9 = false) <|
bnd (decide (a1 = 2)) fun x10 =>
asrt (x10 = false) <|
bnd (decide (a1 = 3)) fun x11 =>
cond x11 (some (.inr ())) (bnd (decide (a1 = 4)) fun x12 =>
asrt (x12 = false) <|
some (.inl ()))).bind <| selr (fun _ =>
(d_pool_own a3).bind fun x13 =>
some ((x13 : GPool), (0 : Int), (12 : Int))) <| fun _ =>
(show Option ((GPool × Int)) from
(d_pavg_In n a3 a4).bind fun x19 =>
some ((x19.1 : GPool), (x19.2 : Int))).bind <| p2 fun (y2_1 : GPool) (y2_2 : Int) =>
bnd (decide (y2_2 ≠ 0)) fun x21 =>
asrt (x21 = false) <|
some ((y2_1 : GPool), (0 : Int), (0 : Int))
theorem d_pool_In_c {n : Nat} {a1 : Int} {a2 : Int} {a3 : GPool} {a4 : GLayer} {r : GPool × Int × Int} (h0 : d_pool_In n a1 a2 a3 a4 = some r) : PP Tryz.prog 126 [int a1, int a2, .agg (GPool.av a3), .agg (GLayer.av a4)] (fun y => y = .tup [.agg (GPool.av r.1), int r.2.1, int r.2.2]) := by
  unfold d_pool_In at h0
  refine pp_of_pc (R0 := fun y H => Cv (frzH H) y (.tup [.agg (GPool.av r.1), int r.2.1, int r.2.2])) ?_ (fun y H hc => ⟨_, rfl, .tup (pvl3 ((fun (a : GPool) => PV.agg (GPool.pvc a)) (r.1)) (pvI (r.2.1)) (pvI (r.2.2))), hc⟩)
  refine pcw (c := _) Tryz.func126 rfl rfl ?_; intro Q hret hnorm
  refine tc tbk 2 (.mk ?_)
  refine sB 1 fun v5 => ?_
  refine sB 2 fun v6 => ?_
  refine sA 3 z98 fun v7 => ?_
  refine tr tbk 7 (.mk ?_)
  obtain ⟨j8, h1, h0⟩ := bind_e h0
  refine rse (Out := fun y H' => (∃ (a : Unit) (k : Unit), (.inl a) = j8 ∧ y = .sc .nilIface ∧ H' = hk [(1, ⟨98, 4, true, true, v5, [[lst 3 GLayer.av a3.Layers, int a3.Pend.a0, int a3.Pend.a1, int a3.Pend.a2]]⟩), (2, ⟨57, 3, true, true, v6, [[int a4.Qty, int a4.Value, int a4.Profit]]⟩), (3, ⟨98, 4, true, true, v7, [[.sc (.slice none 0 0), int 0, int 0, int 0]]⟩)]) ∨ (∃ (a : Unit) (k : Unit), (.inr a) = j8 ∧ y = .ifc 258 (.agg []) ∧ H' = hk [(1, ⟨98, 4, true, true, v5, [[lst 3 GLayer.av a3.Layers, int a3.Pend.a0, int a3.Pend.a1, int a3.Pend.a2]]⟩), (2, ⟨57, 3, true, true, v6, [[int a4.Qty, int a4.Value, int a4.Profit]]⟩), (3, ⟨98, 4, true, true, v7, [[.sc (.slice none 0 0), int 0, int 0, int 0]]⟩)])) rfl rfl rfl (yl_call rfl rfl (.cons rfl (.cons rfl .nil)) cal194 ?_) ?_
  refine pcw (c := _) Tryz.func194 rfl rfl ?_; intro Q hret hnorm
  refine tc tbk 12 (.mk ?_)
  refine nb tbk h1 fun x9 h1 => ?_
  refine tr tbk 2 (.mk ?_)
  replace h1 := asrt_e h1
  obtain ⟨rfl, h1⟩ := h1
  refine tc tbk 3 (.mk ?_)
  refine nb tbk h1 fun x10 h1 => ?_
  refine tr tbk 2 (.mk ?_)
  replace h1 := asrt_e h1
  obtain ⟨rfl, h1⟩ := h1
  refine tc tbk 3 (.mk ?_)
  refine nb tbk h1 fun x11 h1 => ?_
  refine tr tbk 2 (.mk ?_)
  cases x11
  replace h1 := cf h1
  refine tc tbk 3 (.mk ?_)
  refine nb tbk h1 fun x12 h1 => ?_
  refine tr tbk 2 (.mk ?_)
  replace h1 := asrt_e h1
  obtain ⟨rfl, h1⟩ := h1
  refine tc tbk 7 (.mk ?_)
  obtain rfl := nxt_e h1
  refine w_ret (hret _ _ (hk [(1, ⟨98, 4, true, true, v5, [[lst 3 GLayer.av a3.Layers, int a3.Pend.a0, int a3.Pend.a1, int a3.Pend.a2]]⟩), (2, ⟨57, 3, true, true, v6, [[int a4.Qty, int a4.Value, int a4.Profit]]⟩), (3, ⟨98, 4, true, true, v7, [[.sc (.slice none 0 0), int 0, int 0, int 0]]⟩)]) (.tmp rfl .nil) (HK.le ⟨rfl, rfl, rfl, trivial⟩) ?_)
  exact (.inl ⟨(), (), rfl, rfl, rfl⟩)
  replace h1 := ct h1
  refine tc tbk 4 (.mk ?_)
  refine sY (yv_makeIface rfl Tryz.underlying258 (by intro _ h; cases h) rfl) ?_
  refine tr tbk 2 (.mk ?_)
  obtain rfl := nxt_e h1
  refine w_ret (hret _ _ (hk [(1, ⟨98, 4, true, true, v5, [[lst 3 GLayer.av a3.Layers, int a3.Pend.a0, int a3.Pend.a1, int a3.Pend.a2]]⟩), (2, ⟨57, 3, true, true, v6, [[int a4.Qty, int a4.Value, int a4.Profit]]⟩), (3, ⟨98, 4, true, true, v7, [[.sc (.slice none 0 0), int 0, int 0, int 0]]⟩)]) (.tmp rfl .nil) (HK.le ⟨rfl, rfl, rfl, trivial⟩) ?_)
  exact (.inr ⟨(), (), rfl, rfl, rfl⟩)
  rintro y _ (⟨_, _, rfl, hc, rfl⟩ | ⟨_, _, rfl, hc, rfl⟩)
  replace h0 := selr_l h0
  subst hc
  refine tr tbk 6 (.mk ?_)
  refine sY (yv_ifeqN rfl Tryz.underlying215 rfl rfl) ?_
  refine tr tbk 5 (.mk ?_)
  obtain ⟨x13, e13, h0⟩ := bind_e h0
  refine sC cal195 (d_pool_own_c e13) ?_
  refine sS ⟨98, 4, true, true, v7, [[lst 3 GLayer.av x13.Layers, int x13.Pend.a0, int x13.Pend.a1, int x13.Pend.a2]]⟩ sh98 ?_
  refine tr tbk 3 (.mk ?_)
  obtain rfl := nxt_e h0
  refine wR hret (rC sh98 (rT (rT .nil))) ?_
  exact .refl _
  replace h0 := selr_r h0
  subst hc
  refine tr tbk 6 (.mk ?_)
  refine sY (yv_ifeq rfl Tryz.underlying215 rfl rfl) ?_
  refine tr tbk 8 (.mk ?_)
  obtain ⟨j14, h1, h0⟩ := bind_e h0
  refine rse (Out := fun y H' => (∃ (a : GPool × Int) (k : Unit), a = j14 ∧ y = .tup [.agg [lst 3 GLayer.av a.1.Layers, int a.1.Pend.a0, int a.1.Pend.a1, int a.1.Pend.a2], int 0, int a.2] ∧ H' = hk [(1, ⟨98, 4, true, true, v5, [[lst 3 GLayer.av a3.Layers, int a3.Pend.a0, int a3.Pend.a1, int a3.Pend.a2]]⟩), (2, ⟨57, 3, true, true, v6, [[int a4.Qty, int a4.Value, int a4.Profit]]⟩), (3, ⟨98, 4, true, true, v7, [[.sc (.slice none 0 0), int 0, int 0, int 0]]⟩)])) rfl rfl rfl (yl_callI rfl rfl mth258_307 (.cons rfl (.cons rfl .nil)) cal307 ?_) ?_
  refine pcw (c := _) Tryz.func307 rfl rfl ?_; intro Q hret hnorm
  refine tc tbk 2 (.mk ?_)
  refine sB 4 fun v15 => ?_
  refine sB 5 fun v16 => ?_
  refine sB 6 fun v17 => ?_
  refine sA 7 z98 fun v18 => ?_
  refine tr tbk 7 (.mk ?_)
  obtain ⟨x19, e19, h1⟩ := bind_e h1
  refine sC cal309 (d_pavg_In_c e19) ?_
  refine tr tbk 3 (.mk ?_)
  refine sS ⟨98, 4, true, true, v16, [[lst 3 GLayer.av x19.1.Layers, int x19.1.Pend.a0, int x19.1.Pend.a1, int x19.1.Pend.a2]]⟩ sh98 ?_
  refine tr tbk 6 (.mk ?_)
  refine sS ⟨98, 4, true, true, v18, [[lst 3 GLayer.av x19.1.Layers, int x19.1.Pend.a0, int x19.1.Pend.a1, int x19.1.Pend.a2]]⟩ sh98 ?_
  refine tr tbk 3 (.mk ?_)
  obtain rfl := nxt_e h1
  refine w_ret (hret _ _ (hk [(1, ⟨98, 4, true, true, v5, [[lst 3 GLayer.av a3.Layers, int a3.Pend.a0, int a3.Pend.a1, int a3.Pend.a2]]⟩), (2, ⟨57, 3, true, true, v6, [[int a4.Qty, int a4.Value, int a4.Profit]]⟩), (3, ⟨98, 4, true, true, v7, [[.sc (.slice none 0 0), int 0, int 0, int 0]]⟩)]) (.cell rfl (.pt rfl rfl rfl) sh98 rfl (.tmp rfl (.tmp rfl .nil))) (HK.le ⟨rfl, rfl, rfl, trivial⟩) ?_)
  exact ⟨(x19.1, x19.2), (), rfl, rfl, rfl⟩
  rintro y _ ⟨⟨y2_1, y2_2⟩, _, rfl, hc, rfl⟩
  replace h0 := p2_e h0
  subst hc
  refine tr tbk 4 (.mk ?_)
  refine sA 8 z98 fun v20 => ?_
  refine sS ⟨98, 4, true, true, v20, [[lst 3 GLayer.av y2_1.Layers, int y2_1.Pend.a0, int y2_1.Pend.a1, int y2_1.Pend.a2]]⟩ sh98 ?_
  refine tr tbk 7 (.mk ?_)
  refine nb tbk h0 fun x21 h0 => ?_
  refine tr tbk 1 (.mk ?_)
  replace h0 := asrt_e h0
  obtain ⟨rfl, h0⟩ := h0
  refine tc tbk 6 (.mk ?_)
  refine sS ⟨98, 4, true, true, v7, [[lst 3 GLayer.av y2_1.Layers, int y2_1.Pend.a0, int y2_1.Pend.a1, int y2_1.Pend.a2]]⟩ sh98 ?_
  refine tr tbk 3 (.mk ?_)
  obtain rfl := nxt_e h0
  refine wR hret (rC sh98 (rT (rT .nil))) ?_
  exact .refl _
def d_stock_At (a1 : GState) (a2 : Int) (a3 : Int) (a4 : Int) : Option (GPool) :=
(d_stock_place a1 a2 a3 a4).bind fun x7 =>
bnd (decide (x7 < 0)) fun x8 =>
asrt (x8 = false) <|
(ix a1.Ents a2).bind fun x9 =>
(ix x9.Pools x7).bind fun x10 =>
asrt (x10.Layers.length ≤ 68719476736) <|
some ((x10 : GPool))
theorem d_stock_At_c {a1 : GState} {a2 : Int} {a3 : Int} {a4 : Int} {r : GPool} (h0 : d_stock_At a1 a2 a3 a4 = some r) : PP Tryz.prog 139 [.agg (GState.av a1), int a2, int a3, int a4] (fun y => y = .agg (GPool.av r)) := by
  unfold d_stock_At at h0
  refine pp_of_pc (R0 := fun y H => Cv (frzH H) y (.agg (GPool.av r))) ?_ (fun y H hc => ⟨_, rfl, (fun (a : GPool) => PV.agg (GPool.pvc a)) r, hc⟩)
  refine pcw (c := _) Tryz.func139 rfl rfl ?_; intro Q hret hnorm
  refine tc tbk 2 (.mk ?_)
  refine sB 1 fun v5 => ?_
  refine sA 2 z98 fun v6 => ?_
  refine tr tbk 7 (.mk ?_)
  obtain ⟨x7, e7, h0⟩ := bind_e h0
  refine sC cal125 (d_stock_place_c e7) ?_
  refine tr tbk 6 (.mk ?_)
  refine nb tbk h0 fun x8 h0 => ?_
  refine tr tbk 1 (.mk ?_)
  replace h0 := asrt_e h0
  obtain ⟨rfl, h0⟩ := h0
  refine tc tbk 7 (.mk ?_)
  obtain ⟨x9, e9, h0⟩ := bind_e h0
  refine sY (yv_to (y := .pp [int x9.Now, boo x9.Closed, lst 4 GPool.av x9.Pools, lst 1 fI x9.Bal, lst 11 GRoll.av x9.Rolls, lst 1 fI x9.Prices, lst 1 fI x9.Down, lst 8 GEnt.av x9.Ahead]) (yv_ixT rfl Tryz.underlying26 sh46 rfl rfl e9) (congrArg AV.pp (GEnt.av_eq x9))) ?_
  refine tr tbk 3 (.mk ?_)
  obtain ⟨x10, e10, h0⟩ := bind_e h0
  refine sY (yv_ixT rfl Tryz.underlying43 sh98 rfl rfl e10) ?_
  refine tr tbk 1 (.mk ?_)
  refine sA 3 z98 fun v11 => ?_
  refine sS ⟨98, 4, true, true, v11, [[lst 3 GLayer.av x10.Layers, int x10.Pend.a0, int x10.Pend.a1, int x10.Pend.a2]]⟩ sh98 ?_
  refine tr tbk 5 (.mk ?_)
  obtain ⟨p12, h0⟩ := asrt_e h0
  refine rse rfl rfl rfl (yl_call rfl rfl (.cons rfl .nil) cal211 (pc_cv (clone211_c (id := 4) (l := x10.Layers) rfl p12) (.cons (.refl _) .nil))) ?_; rintro _ _ ⟨v13, rfl, rfl⟩
  refine tr tbk 1 (.mk ?_)
  refine sS ⟨98, 4, true, true, v11, [[.sl 4 v13 0 x10.Layers.length, int x10.Pend.a0, int x10.Pend.a1, int x10.Pend.a2]]⟩ sh95 ?_
  refine tr tbk 4 (.mk ?_)
  refine sS ⟨98, 4, true, true, v6, [[.sl 4 v13 0 x10.Layers.length, int x10.Pend.a0, int x10.Pend.a1, int x10.Pend.a2]]⟩ sh98 ?_
  refine tr tbk 1 (.mk ?_)
  obtain rfl := nxt_e h0
  refine wR hret (rC sh98 .nil) ?_
  exact (CvL.agg (.cons (cv_lst rfl rfl rfl rfl rfl (Eq.symm rfl)) (.cons (.refl _) (.cons (.refl _) (.cons (.refl _) .nil)))))
def d_stock_worth_L0 (a1 : GState) (a2 : Int) (a3 : Int) : Nat → Int → (List Int) → (List Int) → (List Int) → Option ((List Int) × (List Int) × (List Int))
  | 0, _, _, _, _ => none
  | n + 1, y0_4, y0_5, y0_6, y0_7 =>
    bnd (decide (y0_4 < 2)) fun x10 =>
    cond x10 ((d_stock_At a1 a2 a3 y0_4).bind fun x11 =>
    (d_fifo_Total n x11.Layers).bind fun x12 =>
    bnd (y0_5 ++ ([x12.1.Qty] : List Int)) fun x14 =>
    asrt (x14.length ≤ 68719476736) <|
    bnd (y0_6 ++ ([x12.1.Value] : List Int)) fun x17 =>
    asrt (x17.length ≤ 68719476736) <|
    bnd (y0_7 ++ ([x12.1.Profit] : List Int)) fun x20 =>
    asrt (x20.length ≤ 68719476736) <|
    bnd (w64 (y0_4 + 1)) fun x23 =>
    d_stock_worth_L0 a1 a2 a3 n (x23 : Int) (x14 : List Int) (x17 : List Int) (x20 : List Int)) (some ((y0_5 : List Int), (y0_6 : List Int), (y0_7 : List Int)))
def d_stock_worth (n : Nat) (a1 : GState) (a2 : Int) (a3 : Int) : Option (GLayer × Bool) :=
(show Option ((List Int) × (List Int) × (List Int)) from
d_stock_worth_L0 a1 a2 a3 n (0 : Int) (([] : List Int) : List Int) (([] : List Int) : List Int) (([] : List Int) : List Int)).bind <| p2 fun (y1_4 : List Int) (q0 : (List Int) × (List Int)) => (p2 fun (y1_5 : List Int) (y1_6 : List Int) =>
(d_money_Sum n y1_4).bind fun x24 =>
(d_money_Sum n y1_5).bind fun x25 =>
(d_money_Sum n y1_6).bind fun x26 =>
bnd (if x26.2 > (if x25.2 > x24.2 then x25.2 else x24.2) then x26.2 else (if x25.2 > x24.2 then x25.2 else x24.2)) fun x27 =>
bnd (decide (x27 = 0)) fun x28 =>
some (((⟨x24.1, x25.1, x26.1⟩ : GLayer) : GLayer), (x28 : Bool))) q0
theorem d_stock_worth_c {n : Nat} {a1 : GState} {a2 : Int} {a3 : Int} {r : GLayer × Bool} (h0 : d_stock_worth n a1 a2 a3 = some r) : PP Tryz.prog 100 [.agg (GState.av a1), int a2, int a3] (fun y => y = .tup [.agg (GLayer.av r.1), boo r.2]) := by
  unfold d_stock_worth at h0
  refine pp_of_pc (R0 := fun y H => Cv (frzH H) y (.tup [.agg (GLayer.av r.1), boo r.2])) ?_ (fun y H hc => ⟨_, rfl, .tup (pvl2 ((fun (a : GLayer) => PV.agg (GLayer.pvc a)) (r.1)) (pvB (r.2))), hc⟩)
  refine pcw (c := _) Tryz.func100 rfl rfl ?_; intro Q hret hnorm
  refine tc tbk 2 (.mk ?_)
  refine sB 1 fun v4 => ?_
  refine sA 2 z57 fun v5 => ?_
  refine tr tbk 13 (.mk ?_)
  refine jn h0 [6, 7] [2] (fun (a : (List Int) × (List Int) × (List Int)) (k : Nat × Nat × Nat) => [(8, .sl 7 k.1 0 a.1.length), (9, .sl 8 k.2.1 0 a.2.1.length), (10, .sl 9 k.2.2 0 a.2.2.length)]) (fun a k => [(7, ⟨3, 1, true, true, k.1, a.1.map fI⟩), (8, ⟨3, 1, true, true, k.2.1, a.2.1.map fI⟩), (9, ⟨3, 1, true, true, k.2.2, a.2.2.map fI⟩)]) ⟨fun j6 h1 => ?_, ?_⟩
  refine tc tbk 1 (.mk ?_)
  refine c_nilobj 8 7 3 1 rfl rfl ?_; intro v7
  refine c_nilobj 9 8 3 1 rfl rfl ?_; intro v8
  refine c_nilobj 10 9 3 1 rfl rfl ?_; intro v9
  refine lp (fun n (a : Int × (List Int) × (List Int) × (List Int)) => d_stock_worth_L0 a1 a2 a3 n a.1 a.2.1 a.2.2.1 a.2.2.2) ((0 : Int), (([] : List Int) : List Int), (([] : List Int) : List Int), (([] : List Int) : List Int)) (v7, v8, v9) h1 [1, 2, 3, 6, 7] [1, 2] (fun (a : Int × (List Int) × (List Int) × (List Int)) (k : Nat × Nat × Nat) => [(8, .sl 7 k.1 0 a.2.1.length), (9, .sl 8 k.2.1 0 a.2.2.1.length), (10, .sl 9 k.2.2 0 a.2.2.2.length), (20, int a.1)]) (fun a k => [(7, ⟨3, 1, true, true, k.1, a.2.1.map fI⟩), (8, ⟨3, 1, true, true, k.2.1, a.2.2.1.map fI⟩), (9, ⟨3, 1, true, true, k.2.2, a.2.2.2.map fI⟩)]) (fun _ => rfl) ⟨leA, ?_⟩
  rintro n ⟨y0_4, y0_5, y0_6, y0_7⟩ ⟨w0_1, w0_2, w0_3⟩ hm h1
  replace h1 : d_stock_worth_L0 a1 a2 a3 (n + 1) y0_4 y0_5 y0_6 y0_7 = some _ := h1
  rw [d_stock_worth_L0] at h1
  refine tc tbk 2 (.mk ?_)
  refine nb tbk h1 fun x10 h1 => ?_
  refine tr tbk 2 (.mk ?_)
  cases x10
  replace h1 := cf h1
  refine tc tbk 2 (.mk ?_)
  exact lf h1 (w0_1, w0_2, w0_3) leA
  replace h1 := ct h1
  refine tc tbk 15 (.mk ?_)
  obtain ⟨x11, e11, h1⟩ := bind_e h1
  refine sC cal139 (d_stock_At_c e11) ?_
  refine tr tbk 1 (.mk ?_)
  obtain ⟨x12, e12, h1⟩ := bind_e h1
  refine sC cal171 (d_fifo_Total_c e12) ?_
  refine tr tbk 3 (.mk ?_)
  refine sA 3 z57 fun v13 => ?_
  refine sS ⟨57, 3, true, true, v13, [[int x12.1.Qty, int x12.1.Value, int x12.1.Profit]]⟩ sh57 ?_
  refine tr tbk 2 (.mk ?_)
  refine c_drawE [0, 0, 2, 6, 15, 0, 0, 64, 192, 511, 0, 0, 2048, 6144, 16383, 32767, 65535, 131071] (rl [(1, [3]), (2, [3]), (6, [3]), (7, [3]), (11, [3]), (12, [3])] []) (rl [(14, [])] [3]) (rl [(4, false), (9, false), (14, false)] true) [0, 1, 2, 3, 5, 6, 7, 8, 10, 11, 12, 13, 4, 9, 14, 15, 16, 17] mixed (by kernel_rfl) ?_; intro K hK
  refine eM ?_
  refine eF fo57_0 ?_
  refine eL sh3 ?_
  refine eP (fun H hH => yv_to (y := lst 1 fI ([x12.1.Qty] : List Int)) (yv_buildSlice (ps := [(0, _)]) (rows := [[int x12.1.Qty]]) rfl Tryz.underlying22 bz3 (.cons rfl .nil) (by kernel_rfl) rfl rfl rfl) rfl) ?_
  refine eM ?_
  refine eF fo57_1 ?_
  refine eL sh3 ?_
  refine eP (fun H hH => yv_to (y := lst 1 fI ([x12.1.Value] : List Int)) (yv_buildSlice (ps := [(0, _)]) (rows := [[int x12.1.Value]]) rfl Tryz.underlying22 bz3 (.cons rfl .nil) (by kernel_rfl) rfl rfl rfl) rfl) ?_
  refine eM ?_
  refine eF fo57_2 ?_
  refine eL sh3 ?_
  refine eP (fun H hH => yv_to (y := lst 1 fI ([x12.1.Profit] : List Int)) (yv_buildSlice (ps := [(0, _)]) (rows := [[int x12.1.Profit]]) rfl Tryz.underlying22 bz3 (.cons rfl .nil) (by kernel_rfl) rfl rfl rfl) rfl) ?_
  obtain ⟨x14, e14, h1⟩ := bnd_e h1
  obtain ⟨p15, h1⟩ := asrt_e h1
  refine de_eff rfl rfl rfl rfl (yl_appT (g := fI) (l := y0_5) (m := ([x12.1.Qty] : List Int)) .any rfl Tryz.underlying22 bz3 by3 rfl rfl rfl rfl rfl rfl rfl rfl rfl rfl (Eq.symm rfl) (.refl _) (fun _ => rfl) e14 p15) (by rintro _ _ ⟨v16, -, rfl, rfl⟩; exact ⟨rfl, trivial⟩) ?_; rintro _ _ ⟨v16, -, rfl, rfl⟩
  obtain ⟨x17, e17, h1⟩ := bnd_e h1
  obtain ⟨p18, h1⟩ := asrt_e h1
  refine de_eff rfl rfl rfl rfl (yl_appT (g := fI) (l := y0_6) (m := ([x12.1.Value] : List Int)) .any rfl Tryz.underlying22 bz3 by3 rfl rfl rfl rfl rfl rfl rfl rfl rfl rfl (Eq.symm rfl) (.refl _) (fun _ => rfl) e17 p18) (by rintro _ _ ⟨v19, -, rfl, rfl⟩; exact ⟨rfl, trivial⟩) ?_; rintro _ _ ⟨v19, -, rfl, rfl⟩
  obtain ⟨x20, e20, h1⟩ := bnd_e h1
  obtain ⟨p21, h1⟩ := asrt_e h1
  refine de_eff rfl rfl rfl rfl (yl_appT (g := fI) (l := y0_7) (m := ([x12.1.Profit] : List Int)) .any rfl Tryz.underlying22 bz3 by3 rfl rfl rfl rfl rfl rfl rfl rfl rfl rfl (Eq.symm rfl) (.refl _) (fun _ => rfl) e20 p21) (by rintro _ _ ⟨v22, -, rfl, rfl⟩; exact trivial) ?_; rintro _ _ ⟨v22, -, rfl, rfl⟩
  iterate 3 refine eA ?_
  refine de_nil (hK _ ?_)
  refine tc tbk 2 (.mk ?_)
  refine ni tbk h1 fun x23 h1 => ?_
  refine tr tbk 2 (.mk ?_)
  exact bk (x23, x14, x17, x20) (v16, v19, v22) h1 leA
  rintro ⟨y1_4, y1_5, y1_6⟩ ⟨w1_1, w1_2, w1_3⟩ h0
  replace h0 := p2_e h0
  replace h0 := p2_e h0
  refine tc tbk 3 (.mk ?_)
  obtain ⟨x24, e24, h0⟩ := bind_e h0
  refine sY (yv_callT (v := .tup [int x24.1, int x24.2]) rfl rfl (.cons rfl .nil) cal153 (.cons (cv_lst rfl rfl rfl rfl rfl (Eq.symm rfl)) .nil) (d_money_Sum_c e24) rfl) ?_
  refine tr tbk 9 (.mk ?_)
  obtain ⟨x25, e25, h0⟩ := bind_e h0
  refine sY (yv_callT (v := .tup [int x25.1, int x25.2]) rfl rfl (.cons rfl .nil) cal153 (.cons (cv_lst rfl rfl rfl rfl rfl (Eq.symm rfl)) .nil) (d_money_Sum_c e25) rfl) ?_
  refine tr tbk 9 (.mk ?_)
  obtain ⟨x26, e26, h0⟩ := bind_e h0
  refine sY (yv_callT (v := .tup [int x26.1, int x26.2]) rfl rfl (.cons rfl .nil) cal153 (.cons (cv_lst rfl rfl rfl rfl rfl (Eq.symm rfl)) .nil) (d_money_Sum_c e26) rfl) ?_
  refine tr tbk 15 (.mk ?_)
  obtain ⟨x27, e27, h0⟩ := bnd_e h0
  refine sY (yv_max3 rfl rfl rfl rfl e27) ?_
  refine nb tbk h0 fun x28 h0 => ?_
  refine sS ⟨57, 3, true, true, v5, [[int x24.1, int x25.1, int x26.1]]⟩ sh57 ?_
  refine tr tbk 2 (.mk ?_)
  obtain rfl := nxt_e h0
  refine wR hret (rC sh57 (rT .nil)) ?_
  exact .refl _
def d_stock_steady_L1 (x9 : GPool) : Nat → Int → (List Int) → Option ((List Int))
  | 0, _, _ => none
  | n + 1, y1_2, y1_3 =>
    bnd (decide (y1_2 < (x9.Layers.length : Int))) fun x11 =>
    cond x11 ((ix x9.Layers y1_2).bind fun x12 =>
    bnd (w64 (0 - x12.Profit)) fun x14 =>
    bnd (if x14 > x12.Profit then x14 else x12.Profit) fun x15 =>
    bnd (y1_3 ++ ([x15] : List Int)) fun x16 =>
    asrt (x16.length ≤ 68719476736) <|
    bnd (w64 (y1_2 + 1)) fun x19 =>
    d_stock_steady_L1 x9 n (x19 : Int) (x16 : List Int)) (some (y1_3 : List Int))
def d_stock_steady_L0 (a1 : GState) (a2 : Int) (a3 : Int) : Nat → Int → (List Int) → Option ((List Int))
  | 0, _, _ => none
  | n + 1, y0_2, y0_3 =>
    bnd (decide (y0_2 < 2)) fun x7 =>
    cond x7 ((show Option ((List Int)) from
    (d_stock_At a1 a2 a3 y0_2).bind fun x9 =>
    (show Option ((List Int)) from
    d_stock_steady_L1 x9 n (0 : Int) (y0_3 : List Int)).bind <| fun y2_2 =>
    some (y2_2 : List Int)).bind <| fun y3_2 =>
    bnd (w64 (y0_2 + 1)) fun x20 =>
    d_stock_steady_L0 a1 a2 a3 n (x20 : Int) (y3_2 : List Int)) (some (y0_3 : List Int))
def d_stock_steady (n : Nat) (a1 : GState) (a2 : Int) (a3 : Int) : Option (Bool) :=
(show Option ((List Int)) from
d_stock_steady_L0 a1 a2 a3 n (0 : Int) (([] : List Int) : List Int)).bind <| fun y4_2 =>
(d_money_Sum n y4_2).bind fun x21 =>
bnd (decide (x21.2 = 0)) fun x22 =>
some ((x22 : Bool))
theorem d_stock_steady_c {n : Nat} {a1 : GState} {a2 : Int} {a3 : Int} {r : Bool} (h0 : d_stock_steady n a1 a2 a3 = some r) : PP Tryz.prog 128 [.agg (GState.av a1), int a2, int a3] (fun y => y = boo r) := by
  unfold d_stock_steady at h0
  refine pp_of_pc (R0 := fun y H => Cv (frzH H) y (boo r)) ?_ (fun y H hc => ⟨_, rfl, pvB r, hc⟩)
  refine pcw (c := _) Tryz.func128 rfl rfl ?_; intro Q hret hnorm
  refine tc tbk 2 (.mk ?_)
  refine sB 1 fun v4 => ?_
  refine tr tbk 11 (.mk ?_)
  refine jn h0 [6] [] (fun (a : (List Int)) (k : Nat) => [(7, .sl 4 k 0 a.length)]) (fun a k => [(4, ⟨3, 1, true, true, k, a.map fI⟩)]) ⟨fun j5 h1 => ?_, ?_⟩
  refine tc tbk 1 (.mk ?_)
  refine c_nilobj 7 4 3 1 rfl rfl ?_; intro v6
  refine lp (fun n (a : Int × (List Int)) => d_stock_steady_L0 a1 a2 a3 n a.1 a.2) ((0 : Int), (([] : List Int) : List Int)) v6 h1 [1, 2, 3, 6] [1] (fun (a : Int × (List Int)) (k : Nat) => [(7, .sl 4 k 0 a.2.length), (13, int a.1)]) (fun a k => [(4, ⟨3, 1, true, true, k, a.2.map fI⟩)]) (fun _ => rfl) ⟨leA, ?_⟩
  rintro n ⟨y0_2, y0_3⟩ w0_1 hm h1
  replace h1 : d_stock_steady_L0 a1 a2 a3 (n + 1) y0_2 y0_3 = some _ := h1
  rw [d_stock_steady_L0] at h1
  refine tc tbk 2 (.mk ?_)
  refine nb tbk h1 fun x7 h1 => ?_
  refine tr tbk 2 (.mk ?_)
  cases x7
  replace h1 := cf h1
  refine tc tbk 2 (.mk ?_)
  exact lf h1 w0_1 leA
  replace h1 := ct h1
  refine tc tbk 3 (.mk ?_)
  refine jn h1 [1, 2, 3, 6, 13] [1] (fun (a : (List Int)) (k : Nat) => [(7, .sl 4 k 0 a.length)]) (fun a k => [(4, ⟨3, 1, true, true, k, a.map fI⟩)]) ⟨fun j8 h2 => ?_, ?_⟩
  refine tc tbk 12 (.mk ?_)
  obtain ⟨x9, e9, h2⟩ := bind_e h2
  refine sC cal139 (d_stock_At_c e9) ?_
  refine tr tbk 1 (.mk ?_)
  refine sY (yv_len_sl rfl Tryz.underlying95 rfl (lst_len _)) ?_
  refine tr tbk 2 (.mk ?_)
  refine jn h2 [1, 2, 3, 6, 13] [1] (fun (a : (List Int)) (k : Nat) => [(7, .sl 4 k 0 a.length)]) (fun a k => [(4, ⟨3, 1, true, true, k, a.map fI⟩)]) ⟨fun j10 h3 => ?_, ?_⟩
  refine tc tbk 1 (.mk ?_)
  refine lp (fun n (a : Int × (List Int)) => d_stock_steady_L1 x9 n a.1 a.2) ((0 : Int), (y0_3 : List Int)) w0_1 h3 [1, 2, 3, 6, 13, 21, 22] [1] (fun (a : Int × (List Int)) (k : Nat) => [(7, .sl 4 k 0 a.2.length), (23, int a.1)]) (fun a k => [(4, ⟨3, 1, true, true, k, a.2.map fI⟩)]) (fun _ => rfl) ⟨leA, ?_⟩
  rintro n ⟨y1_2, y1_3⟩ w1_1 hm h3
  replace h3 : d_stock_steady_L1 x9 (n + 1) y1_2 y1_3 = some _ := h3
  rw [d_stock_steady_L1] at h3
  refine tc tbk 2 (.mk ?_)
  refine nb tbk h3 fun x11 h3 => ?_
  refine tr tbk 2 (.mk ?_)
  cases x11
  replace h3 := cf h3
  refine tc tbk 2 (.mk ?_)
  exact lf h3 w1_1 leA
  replace h3 := ct h3
  refine tc tbk 6 (.mk ?_)
  obtain ⟨x12, e12, h3⟩ := bind_e h3
  refine sY (yv_ixT rfl Tryz.underlying95 sh57 rfl rfl e12) ?_
  refine tr tbk 1 (.mk ?_)
  refine sA 2 z57 fun v13 => ?_
  refine sS ⟨57, 3, true, true, v13, [[int x12.Qty, int x12.Value, int x12.Profit]]⟩ sh57 ?_
  refine tr tbk 7 (.mk ?_)
  refine ni tbk h3 fun x14 h3 => ?_
  obtain ⟨x15, e15, h3⟩ := bnd_e h3
  refine sY (yv_max rfl rfl rfl e15) ?_
  refine sY (yv_to (y := lst 1 fI ([x15] : List Int)) (yv_buildSlice (ps := [(0, _)]) (rows := [[int x15]]) rfl Tryz.underlying22 bz3 (.cons rfl .nil) (by kernel_rfl) rfl rfl rfl) rfl) ?_
  obtain ⟨x16, e16, h3⟩ := bnd_e h3
  obtain ⟨p17, h3⟩ := asrt_e h3
  refine rse rfl rfl rfl (yl_appT (g := fI) (l := y1_3) (m := ([x15] : List Int)) .any rfl Tryz.underlying22 bz3 by3 rfl rfl rfl rfl rfl rfl rfl rfl rfl rfl (Eq.symm rfl) (.refl _) (fun _ => rfl) e16 p17) ?_; rintro _ _ ⟨v18, -, rfl, rfl⟩
  refine tr tbk 4 (.mk ?_)
  refine ni tbk h3 fun x19 h3 => ?_
  refine tr tbk 2 (.mk ?_)
  exact bk (x19, x16) v18 h3 leA
  rintro y2_2 w2_1 h2
  refine tc tbk 1 (.mk ?_)
  exact lf h2 w2_1 leA
  rintro y3_2 w3_1 h1
  refine tc tbk 1 (.mk ?_)
  refine ni tbk h1 fun x20 h1 => ?_
  refine tr tbk 2 (.mk ?_)
  exact bk (x20, y3_2) w3_1 h1 leA
  rintro y4_2 w4_1 h0
  refine tc tbk 3 (.mk ?_)
  obtain ⟨x21, e21, h0⟩ := bind_e h0
  refine sY (yv_callT (v := .tup [int x21.1, int x21.2]) rfl rfl (.cons rfl .nil) cal153 (.cons (cv_lst rfl rfl rfl rfl rfl (Eq.symm rfl)) .nil) (d_money_Sum_c e21) rfl) ?_
  refine tr tbk 9 (.mk ?_)
  refine nb tbk h0 fun x22 h0 => ?_
  refine tr tbk 2 (.mk ?_)
  obtain rfl := nxt_e h0
  refine wR hret (rT .nil) ?_
  exact .refl _
def d_stock_Bring (n : Nat) (a1 : GState) (a2 : Int) (a3 : Int) (a4 : Int) (a5 : GLayer) : Option (GState × Int × Int × Int) :=
(d_stock_place a1 a2 a3 a4).bind fun x9 =>
bnd (decide (x9 < 0)) fun x10 =>
asrt (x10 = false) <|
(ix a1.Master.Methods a2).bind fun x11 =>
(ix x11 a3).bind fun x12 =>
(ix a1.Master.Costs a2).bind fun x13 =>
(ix x13 a3).bind fun x14 =>
(ix a1.Ents a2).bind fun x15 =>
(ix x15.Pools x9).bind fun x16 =>
(d_pool_In n x12 x14 x16 a5).bind fun x17 =>
bnd (decide (x17.2.2 ≠ 0)) fun x19 =>
asrt (x19 = false) <|
(show Option ((Int × Bool × (List Int) × (List GRoll) × (List Int) × (List Int) × (List GEnt) × (List GPool))) from
(show Option ((Unit)) from
asrt (a1.Ents.length ≤ 68719476736) <|
(ix a1.Ents a2).bind fun x26 =>
some ()).bind <| fun _ =>
(ix a1.Ents a2).bind fun x27 =>
asrt (x27.Pools.length ≤ 68719476736) <|
(ix x27.Pools x9).bind fun x30 =>
bnd (x27.Pools.set (Int.toNat x9) (x17.1 : GPool)) fun x31 =>
some ((x27.Now : Int), (x27.Closed : Bool), (x27.Bal : List Int), (x27.Rolls : List GRoll), (x27.Prices : List Int), (x27.Down : List Int), (x27.Ahead : List GEnt), (x31 : List GPool))).bind <| p2 fun (y1_2 : Int) (q0 : Bool × (List Int) × (List GRoll) × (List Int) × (List Int) × (List GEnt) × (List GPool)) => (p2 fun (y1_3 : Bool) (q1 : (List Int) × (List GRoll) × (List Int) × (List Int) × (List GEnt) × (List GPool)) => (p2 fun (y1_5 : List Int) (q2 : (List GRoll) × (List Int) × (List Int) × (List GEnt) × (List GPool)) => (p2 fun (y1_6 : List GRoll) (q3 : (List Int) × (List Int) × (List GEnt) × (List GPool)) => (p2 fun (y1_7 : List Int) (q4 : (List Int) × (List GEnt) × (List GPool)) => (p2 fun (y1_8 : List Int) (q5 : (List GEnt) × (List GPool)) => (p2 fun (y1_9 : List GEnt) (y1_10 : List GPool) =>
(ix a1.Ents a2).bind fun x32 =>
(d_stock_worth n (⟨a1.Master, (a1.Ents.set (Int.toNat a2) (⟨y1_2, y1_3, y1_10, y1_5, y1_6, y1_7, y1_8, y1_9⟩ : GEnt)), a1.Receipts, a1.Sales, a1.Transits, a1.Done⟩ : GState) a2 a3).bind fun x33 =>
(show Option (Bool) from
bnd (!x33.2) fun x36 =>
cond x36 (some (true : Bool)) ((d_stock_steady n (⟨a1.Master, (a1.Ents.set (Int.toNat a2) (⟨y1_2, y1_3, y1_10, y1_5, y1_6, y1_7, y1_8, y1_9⟩ : GEnt)), a1.Receipts, a1.Sales, a1.Transits, a1.Done⟩ : GState) a2 a3).bind fun x37 =>
bnd (!x37) fun x38 =>
some (x38 : Bool))).bind <| fun y2_1 =>
asrt (y2_1 = false) <|
bnd (w64 (a5.Value - x17.2.1)) fun x39 =>
some (((⟨a1.Master, (a1.Ents.set (Int.toNat a2) (⟨y1_2, y1_3, y1_10, y1_5, y1_6, y1_7, y1_8, y1_9⟩ : GEnt)), a1.Receipts, a1.Sales, a1.Transits, a1.Done⟩ : GState) : GState), (x39 : Int), (x17.2.1 : Int), (0 : Int))) q5) q4) q3) q2) q1) q0
theorem d_stock_Bring_c {n : Nat} {a1 : GState} {a2 : Int} {a3 : Int} {a4 : Int} {a5 : GLayer} {r : GState × Int × Int × Int} (h0 : d_stock_Bring n a1 a2 a3 a4 a5 = some r) : PP Tryz.prog 74 [.agg (GState.av a1), int a2, int a3, int a4, .agg (GLayer.av a5)] (fun y => y = .tup [.agg (GState.av r.1), int r.2.1, int r.2.2.1, int r.2.2.2]) := by
  unfold d_stock_Bring at h0
  refine pp_of_pc (R0 := fun y H => Cv (frzH H) y (.tup [.agg (GState.av r.1), int r.2.1, int r.2.2.1, int r.2.2.2])) ?_ (fun y H hc => ⟨_, rfl, .tup (pvl4 ((fun (a : GState) => PV.agg (GState.pvc a)) (r.1)) (pvI (r.2.1)) (pvI (r.2.2.1)) (pvI (r.2.2.2))), hc⟩)
  refine pcw (c := _) Tryz.func74 rfl rfl ?_; intro Q hret hnorm
  refine tc tbk 2 (.mk ?_)
  refine sB 1 fun v6 => ?_
  refine sB 2 fun v7 => ?_
  refine sA 3 z31 fun v8 => ?_
  refine tr tbk 10 (.mk ?_)
  obtain ⟨x9, e9, h0⟩ := bind_e h0
  refine sC cal125 (d_stock_place_c e9) ?_
  refine tr tbk 6 (.mk ?_)
  refine nb tbk h0 fun x10 h0 => ?_
  refine tr tbk 1 (.mk ?_)
  replace h0 := asrt_e h0
  obtain ⟨rfl, h0⟩ := h0
  refine tc tbk 3 (.mk ?_)
  refine c_drawE [0, 1, 3, 0, 15, 31, 0, 127, 255, 0, 512, 1536, 0, 7680, 15872, 0, 65024, 130560, 0, 262144, 0, 1835008, 3932160, 8126464, 0, 33292288, 66846720, 0, 268435455, 536870911, 1073741823, 1073741823, 1073741823, 0, 10737418239, 30064771071, 68719476735] (rl [(0, [1]), (1, [1]), (2, [1]), (9, [1]), (10, [1]), (11, [1]), (18, [1]), (19, [1]), (27, [2])] []) (rl [(34, [])] [1, 2]) (rl [(33, false), (34, false)] true) [0, 1, 2, 3, 4, 5, 6, 7, 8, 9, 10, 11, 12, 13, 14, 15, 16, 17, 18, 19, 20, 21, 22, 23, 24, 25, 26, 27, 28, 29, 30, 31, 32, 33, 34, 35, 36] mixed (by kernel_rfl) ?_; intro K hK
  refine eF fo31_0 ?_
  refine eF fo25_3 ?_
  refine eL sh23 ?_
  refine eM ?_
  obtain ⟨x11, e11, h0⟩ := bind_e h0
  refine eP (fun H hH => yv_ixT rfl Tryz.underlying23 sh22 rfl rfl e11) ?_
  refine eP (fun H hH => yv_load rfl sh22 rfl (.pp _) rfl) ?_
  refine eM ?_
  obtain ⟨x12, e12, h0⟩ := bind_e h0
  refine eP (fun H hH => yv_ixT rfl Tryz.underlying22 sh3 rfl rfl e12) ?_
  refine eP (fun H hH => yv_load rfl sh3 rfl (.pp _) rfl) ?_
  refine eF fo31_0 ?_
  refine eF fo25_4 ?_
  refine eL sh23 ?_
  refine eM ?_
  obtain ⟨x13, e13, h0⟩ := bind_e h0
  refine eP (fun H hH => yv_ixT rfl Tryz.underlying23 sh22 rfl rfl e13) ?_
  refine eP (fun H hH => yv_load rfl sh22 rfl (.pp _) rfl) ?_
  refine eM ?_
  obtain ⟨x14, e14, h0⟩ := bind_e h0
  refine eP (fun H hH => yv_ixT rfl Tryz.underlying22 sh3 rfl rfl e14) ?_
  refine eP (fun H hH => yv_load rfl sh3 rfl (.pp _) rfl) ?_
  refine eF fo31_1 ?_
  refine eL sh26 ?_
  refine eM ?_
  obtain ⟨x15, e15, h0⟩ := bind_e h0
  refine eP (fun H hH => yv_to (y := .pp [int x15.Now, boo x15.Closed, lst 4 GPool.av x15.Pools, lst 1 fI x15.Bal, lst 11 GRoll.av x15.Rolls, lst 1 fI x15.Prices, lst 1 fI x15.Down, lst 8 GEnt.av x15.Ahead]) (yv_ixT rfl Tryz.underlying26 sh46 rfl rfl e15) (congrArg AV.pp (GEnt.av_eq x15))) ?_
  refine eP (fun H hH => yv_fieldAddr rfl fo46_2 rfl (.pp _) (.pp _ _)) ?_
  refine eP (fun H hH => yv_load rfl sh43 rfl (.pp _) rfl) ?_
  refine eM ?_
  obtain ⟨x16, e16, h0⟩ := bind_e h0
  refine eP (fun H hH => yv_ixT rfl Tryz.underlying43 sh98 rfl rfl e16) ?_
  refine eP (fun H hH => yv_load rfl sh98 rfl (.pp _) rfl) ?_
  refine eL sh57 ?_
  obtain ⟨x17, e17, h0⟩ := bind_e h0
  refine eP (fun H hH => yv_callP rfl rfl (.cons rfl (.cons rfl (.cons rfl (.cons rfl .nil)))) cal126 (CvL.refl _) (d_pool_In_c e17)) ?_
  refine eM ?_
  iterate 3 refine eX ?_
  refine de_eff rfl rfl rfl rfl (yl_alloc 4 .any rfl z98 rfl) (by rintro _ _ ⟨v18, -, rfl, rfl⟩; exact ⟨rfl, rfl, trivial⟩) ?_; rintro _ _ ⟨v18, -, rfl, rfl⟩
  refine de_eff0 rfl rfl rfl rfl (Yield.weak (yl_ob (ob' := (⟨98, 4, true, true, v18, [[lst 3 GLayer.av x17.1.Layers, int x17.1.Pend.a0, int x17.1.Pend.a1, int x17.1.Pend.a2]]⟩ : AObj)) (yl_store rfl sh98 rfl rfl rfl rfl rfl rfl rfl rfl rfl) rfl) (fun _ h => h) (fun _ _ => trivial)) (by rintro _ _ ⟨rfl, rfl⟩; exact trivial) ?_; rintro _ _ ⟨rfl, rfl⟩
  iterate 2 refine eA ?_
  refine de_nil (hK _ ?_)
  refine tc tbk 4 (.mk ?_)
  refine nb tbk h0 fun x19 h0 => ?_
  refine tr tbk 1 (.mk ?_)
  replace h0 := asrt_e h0
  obtain ⟨rfl, h0⟩ := h0
  refine tc tbk 5 (.mk ?_)
  refine sY (yv_build (cs := (GState.av a1)) (ps := [(0, _)]) rfl pl173 z173 rfl (.cons rfl .nil) (by kernel_rfl)) ?_
  refine sA 5 z173 fun v20 => ?_
  refine sS ⟨173, 10, true, true, v20, [(GState.av a1)]⟩ sh173 ?_
  refine tr tbk 6 (.mk ?_)
  obtain ⟨j21, h1, h0⟩ := bind_e h0
  refine rse (Out := fun y H' => (∃ (a : Int × Bool × (List Int) × (List GRoll) × (List Int) × (List Int) × (List GEnt) × (List GPool)) (k : Nat × Nat), a = j21 ∧ y = .tup [] ∧ H' = hk [(1, ⟨31, 10, true, true, v6, [(GState.av a1)]⟩), (2, ⟨57, 3, true, true, v7, [[int a5.Qty, int a5.Value, int a5.Profit]]⟩), (3, ⟨31, 10, true, true, v8, [[int 0, int 0, .sc (.slice none 0 0), .sc (.slice none 0 0), .sc (.slice none 0 0), .sc (.slice none 0 0), .sc (.slice none 0 0), .sc (.slice none 0 0), .sc (.slice none 0 0), int 0]]⟩), (4, ⟨98, 4, true, true, v18, [[lst 3 GLayer.av x17.1.Layers, int x17.1.Pend.a0, int x17.1.Pend.a1, int x17.1.Pend.a2]]⟩), (5, ⟨173, 10, true, true, v20, [[int a1.Master.Entities, int a1.Master.Periods, lst 1 fI a1.Master.Weights, lst 1 (fL 1 fI) a1.Master.Methods, lst 1 (fL 1 fI) a1.Master.Costs, .sl 7 k.1 0 a1.Ents.length, lst 8 GReceipt.av a1.Receipts, lst 9 GSale.av a1.Sales, lst 6 GTransit.av a1.Transits, int a1.Done]]⟩), (7, ⟨46, 8, true, true, k.1, (a1.Ents.map GEnt.av).set (Int.toNat a2) [int a.1, boo a.2.1, .sl 8 k.2 0 a.2.2.2.2.2.2.2.length, lst 1 fI a.2.2.1, lst 11 GRoll.av a.2.2.2.1, lst 1 fI a.2.2.2.2.1, lst 1 fI a.2.2.2.2.2.1, lst 8 GEnt.av a.2.2.2.2.2.2.1]⟩), (8, ⟨98, 4, true, true, k.2, a.2.2.2.2.2.2.2.map GPool.av⟩)])) rfl rfl rfl (yl_call rfl rfl (.cons rfl (.cons rfl (.cons rfl (.cons rfl .nil)))) cal127 ?_) ?_
  refine pcw (c := _) Tryz.func127 rfl rfl ?_; intro Q hret hnorm
  refine tc tbk 2 (.mk ?_)
  refine sB 6 fun v22 => ?_
  refine tr tbk 5 (.mk ?_)
  obtain ⟨j23, h2, h1⟩ := bind_e h1
  refine rse (Out := fun y H' => (∃ (a : Unit) (k : Nat), a = j23 ∧ y = .pt 7 k (Int.toNat a2) 0 ∧ H' = hk [(1, ⟨31, 10, true, true, v6, [(GState.av a1)]⟩), (2, ⟨57, 3, true, true, v7, [[int a5.Qty, int a5.Value, int a5.Profit]]⟩), (3, ⟨31, 10, true, true, v8, [[int 0, int 0, .sc (.slice none 0 0), .sc (.slice none 0 0), .sc (.slice none 0 0), .sc (.slice none 0 0), .sc (.slice none 0 0), .sc (.slice none 0 0), .sc (.slice none 0 0), int 0]]⟩), (4, ⟨98, 4, true, true, v18, [[lst 3 GLayer.av x17.1.Layers, int x17.1.Pend.a0, int x17.1.Pend.a1, int x17.1.Pend.a2]]⟩), (5, ⟨173, 10, true, true, v20, [[int a1.Master.Entities, int a1.Master.Periods, lst 1 fI a1.Master.Weights, lst 1 (fL 1 fI) a1.Master.Methods, lst 1 (fL 1 fI) a1.Master.Costs, .sl 7 k 0 a1.Ents.length, lst 8 GReceipt.av a1.Receipts, lst 9 GSale.av a1.Sales, lst 6 GTransit.av a1.Transits, int a1.Done]]⟩), (6, ⟨98, 4, true, true, v22, [[lst 3 GLayer.av x17.1.Layers, int x17.1.Pend.a0, int x17.1.Pend.a1, int x17.1.Pend.a2]]⟩), (7, ⟨46, 8, true, true, k, a1.Ents.map GEnt.av⟩)])) rfl rfl rfl (yl_call rfl rfl (.cons rfl (.cons rfl .nil)) cal131 ?_) ?_
  refine pcw (c := _) Tryz.func131 rfl rfl ?_; intro Q hret hnorm
  refine tc tbk 12 (.mk ?_)
  obtain ⟨p24, h2⟩ := asrt_e h2
  refine rse rfl rfl rfl (yl_call rfl rfl (.cons rfl .nil) cal52 (pc_cv (clone52_c (id := 7) (l := a1.Ents) rfl p24) (.cons (.refl _) .nil))) ?_; rintro _ _ ⟨v25, rfl, rfl⟩
  refine tr tbk 3 (.mk ?_)
  refine sS ⟨173, 10, true, true, v20, [[int a1.Master.Entities, int a1.Master.Periods, lst 1 fI a1.Master.Weights, lst 1 (fL 1 fI) a1.Master.Methods, lst 1 (fL 1 fI) a1.Master.Costs, .sl 7 v25 0 a1.Ents.length, lst 8 GReceipt.av a1.Receipts, lst 9 GSale.av a1.Sales, lst 6 GTransit.av a1.Transits, int a1.Done]]⟩ sh26 ?_
  refine tr tbk 9 (.mk ?_)
  obtain ⟨x26, e26, h2⟩ := bind_e h2
  refine sY (yv_ixO rfl Tryz.underlying26 sh46 rfl rfl rfl rfl rfl (Eq.symm rfl) (List.length_map _) e26) ?_
  refine tr tbk 2 (.mk ?_)
  obtain rfl := nxt_e h2
  refine w_ret (hret _ _ (hk [(1, ⟨31, 10, true, true, v6, [(GState.av a1)]⟩), (2, ⟨57, 3, true, true, v7, [[int a5.Qty, int a5.Value, int a5.Profit]]⟩), (3, ⟨31, 10, true, true, v8, [[int 0, int 0, .sc (.slice none 0 0), .sc (.slice none 0 0), .sc (.slice none 0 0), .sc (.slice none 0 0), .sc (.slice none 0 0), .sc (.slice none 0 0), .sc (.slice none 0 0), int 0]]⟩), (4, ⟨98, 4, true, true, v18, [[lst 3 GLayer.av x17.1.Layers, int x17.1.Pend.a0, int x17.1.Pend.a1, int x17.1.Pend.a2]]⟩), (5, ⟨173, 10, true, true, v20, [[int a1.Master.Entities, int a1.Master.Periods, lst 1 fI a1.Master.Weights, lst 1 (fL 1 fI) a1.Master.Methods, lst 1 (fL 1 fI) a1.Master.Costs, .sl 7 v25 0 a1.Ents.length, lst 8 GReceipt.av a1.Receipts, lst 9 GSale.av a1.Sales, lst 6 GTransit.av a1.Transits, int a1.Done]]⟩), (6, ⟨98, 4, true, true, v22, [[lst 3 GLayer.av x17.1.Layers, int x17.1.Pend.a0, int x17.1.Pend.a1, int x17.1.Pend.a2]]⟩), (7, ⟨46, 8, true, true, v25, a1.Ents.map GEnt.av⟩)]) (.tmp rfl .nil) (HK.le ⟨rfl, rfl, rfl, rfl, rfl, rfl, rfl, trivial⟩) ?_)
  exact ⟨(), v25, rfl, rfl, rfl⟩
  rintro y _ ⟨_, w0_1, rfl, hc, rfl⟩
  subst hc
  refine tr tbk 6 (.mk ?_)
  obtain ⟨x27, e27, h1⟩ := bind_e h1
  refine sY (yv_nilCheck rfl rfl (.pt rfl rfl (ix_get' e27 (GEnt.av_eq _)))) ?_
  refine sY (yv_fieldAddr rfl fo46_2 rfl (.pt rfl rfl (ix_get' e27 (GEnt.av_eq _))) (.pt _ _ _ _ _)) ?_
  refine sY (yv_load rfl sh43 rfl (.pt rfl rfl (ix_get' e27 (GEnt.av_eq _))) rfl) ?_
  obtain ⟨p28, h1⟩ := asrt_e h1
  refine rse rfl rfl rfl (yl_call rfl rfl (.cons rfl .nil) cal96 (pc_cv (clone96_c (id := 8) (l := x27.Pools) rfl p28) (.cons (.refl _) .nil))) ?_; rintro _ _ ⟨v29, rfl, rfl⟩
  refine sY (yv_nilCheck rfl rfl (.pt rfl rfl (ix_get' e27 (GEnt.av_eq _)))) ?_
  refine sY (yv_fieldAddr rfl fo46_2 rfl (.pt rfl rfl (ix_get' e27 (GEnt.av_eq _))) (.pt _ _ _ _ _)) ?_
  refine rsstore rfl rfl (yl_ob (ob' := (⟨46, 8, true, true, w0_1, (a1.Ents.map GEnt.av).set (Int.toNat a2) [int x27.Now, boo x27.Closed, .sl 8 v29 0 x27.Pools.length, lst 1 fI x27.Bal, lst 11 GRoll.av x27.Rolls, lst 1 fI x27.Prices, lst 1 fI x27.Down, lst 8 GEnt.av x27.Ahead]⟩ : AObj)) (yl_store rfl sh43 rfl rfl rfl rfl rfl (ix_get' e27 (GEnt.av_eq _)) rfl rfl rfl) (ob_eq rfl)) ?_
  refine tr tbk 1 (.mk ?_)
  refine c_drawE [0, 1, 3, 7, 0, 0, 63, 127] (rl [(1, [7]), (2, [7]), (3, [7]), (5, [6]), (6, [8])] []) (rl [(7, [])] [6, 7, 8]) (rl [(7, false)] true) [0, 1, 2, 3, 4, 5, 6, 7] mixed (by kernel_rfl) ?_; intro K hK
  refine eM ?_
  refine eN (hr := set_get e27) ?_
  refine eF fo46_2 (hr := set_get e27) ?_
  refine eL sh43 (hr := set_get e27) ?_
  refine eM ?_
  refine eL sh98 ?_
  obtain ⟨x30, e30, h1⟩ := bind_e h1
  refine de_pure rfl rfl rfl rfl (fun H hH => yv_ixO rfl Tryz.underlying43 sh98 rfl rfl ((hH _ (by decide)).trans rfl) rfl rfl (Eq.symm rfl) (List.length_map _) e30) ?_
  obtain ⟨x31, e31, h1⟩ := bnd_e h1
  have fx31 := ix_set e30 e31; have lx31 := len_setV e31 (rfl : x27.Pools.length = x27.Pools.length)
  refine de_eff0 rfl rfl rfl rfl (Yield.weak (yl_ob (ob' := (⟨98, 4, true, true, v29, x31.map GPool.av⟩ : AObj)) (yl_store rfl sh98 rfl rfl rfl rfl rfl (ix_get e30) rfl rfl rfl) (ob_eq (map_setV e31))) (fun _ h => h) (fun _ _ => trivial)) (by rintro _ _ ⟨rfl, rfl⟩; exact trivial) ?_; rintro _ _ ⟨rfl, rfl⟩
  refine de_nil (hK _ ?_)
  obtain rfl := nxt_e h1
  refine c_nil (hnorm _ _ (hk [(1, ⟨31, 10, true, true, v6, [(GState.av a1)]⟩), (2, ⟨57, 3, true, true, v7, [[int a5.Qty, int a5.Value, int a5.Profit]]⟩), (3, ⟨31, 10, true, true, v8, [[int 0, int 0, .sc (.slice none 0 0), .sc (.slice none 0 0), .sc (.slice none 0 0), .sc (.slice none 0 0), .sc (.slice none 0 0), .sc (.slice none 0 0), .sc (.slice none 0 0), int 0]]⟩), (4, ⟨98, 4, true, true, v18, [[lst 3 GLayer.av x17.1.Layers, int x17.1.Pend.a0, int x17.1.Pend.a1, int x17.1.Pend.a2]]⟩), (5, ⟨173, 10, true, true, v20, [[int a1.Master.Entities, int a1.Master.Periods, lst 1 fI a1.Master.Weights, lst 1 (fL 1 fI) a1.Master.Methods, lst 1 (fL 1 fI) a1.Master.Costs, .sl 7 w0_1 0 a1.Ents.length, lst 8 GReceipt.av a1.Receipts, lst 9 GSale.av a1.Sales, lst 6 GTransit.av a1.Transits, int a1.Done]]⟩), (7, ⟨46, 8, true, true, w0_1, (a1.Ents.map GEnt.av).set (Int.toNat a2) [int x27.Now, boo x27.Closed, .sl 8 v29 0 x31.length, lst 1 fI x27.Bal, lst 11 GRoll.av x27.Rolls, lst 1 fI x27.Prices, lst 1 fI x27.Down, lst 8 GEnt.av x27.Ahead]⟩), (8, ⟨98, 4, true, true, v29, x31.map GPool.av⟩)]) .nil (HK.le ⟨rfl, rfl, rfl, rfl, rfl, (by first | rfl | exact lx31 ▸ rfl), rfl, trivial⟩) ?_)
  exact ⟨(x27.Now, x27.Closed, x27.Bal, x27.Rolls, x27.Prices, x27.Down, x27.Ahead, x31), (w0_1, v29), rfl, rfl, rfl⟩
  rintro y _ ⟨⟨y1_2, y1_3, y1_5, y1_6, y1_7, y1_8, y1_9, y1_10⟩, ⟨w1_1, w1_4⟩, rfl, hc, rfl⟩
  replace h0 := p2_e h0
  replace h0 := p2_e h0
  replace h0 := p2_e h0
  replace h0 := p2_e h0
  replace h0 := p2_e h0
  replace h0 := p2_e h0
  replace h0 := p2_e h0
  subst hc
  obtain ⟨x32, e32, h0⟩ := bind_e h0
  refine tr tbk 8 (.mk ?_)
  obtain ⟨x33, e33, h0⟩ := bind_e h0
  refine sY (yv_callT (v := .tup [.agg [int x33.1.Qty, int x33.1.Value, int x33.1.Profit], boo x33.2]) rfl rfl (.cons rfl (.cons rfl (.cons rfl .nil))) cal100 (.cons (CvL.agg (.cons (.refl _) (.cons (.refl _) (.cons (.refl _) (.cons (.refl _) (.cons (.refl _) (.cons (cv_ov rfl rfl rfl rfl rfl (Eq.symm rfl) e32 (cvl_to (.cons (.refl _) (.cons (.refl _) (.cons (cv_lst rfl rfl rfl rfl rfl (Eq.symm rfl)) (.cons (.refl _) (.cons (.refl _) (.cons (.refl _) (.cons (.refl _) (.cons (.refl _) .nil)))))))) (GEnt.av_eq _))) (.cons (.refl _) (.cons (.refl _) (.cons (.refl _) (.cons (.refl _) .nil))))))))))) (.cons (.refl _) (.cons (.refl _) .nil))) (d_stock_worth_c e33) rfl) ?_
  refine tr tbk 3 (.mk ?_)
  refine sA 9 z57 fun v34 => ?_
  refine sS ⟨57, 3, true, true, v34, [[int x33.1.Qty, int x33.1.Value, int x33.1.Profit]]⟩ sh57 ?_
  refine tr tbk 3 (.mk ?_)
  refine jn h0 [5, 9, 10, 11, 12, 13, 17] [1, 2, 3, 5, 7, 8] (fun (a : Bool) (k : Unit) => [(88, boo a)]) (fun a k => []) ⟨fun j35 h1 => ?_, ?_⟩
  refine tc tbk 2 (.mk ?_)
  refine nb tbk h1 fun x36 h1 => ?_
  refine tr tbk 1 (.mk ?_)
  cases x36
  replace h1 := cf h1
  refine tr tbk 4 (.mk ?_)
  obtain ⟨x37, e37, h1⟩ := bind_e h1
  refine sY (yv_callT (v := boo x37) rfl rfl (.cons rfl (.cons rfl (.cons rfl .nil))) cal128 (.cons (CvL.agg (.cons (.refl _) (.cons (.refl _) (.cons (.refl _) (.cons (.refl _) (.cons (.refl _) (.cons (cv_ov rfl rfl rfl rfl rfl (Eq.symm rfl) e32 (cvl_to (.cons (.refl _) (.cons (.refl _) (.cons (cv_lst rfl rfl rfl rfl rfl (Eq.symm rfl)) (.cons (.refl _) (.cons (.refl _) (.cons (.refl _) (.cons (.refl _) (.cons (.refl _) .nil)))))))) (GEnt.av_eq _))) (.cons (.refl _) (.cons (.refl _) (.cons (.refl _) (.cons (.refl _) .nil))))))))))) (.cons (.refl _) (.cons (.refl _) .nil))) (d_stock_steady_c e37) rfl) ?_
  refine nb tbk h1 fun x38 h1 => ?_
  refine tr tbk 2 (.mk ?_)
  exact lf h1 () leA
  replace h1 := ct h1
  refine tr tbk 8 (.mk ?_)
  exact lf h1 () leA
  rintro y2_1 _ h0
  replace h0 := asrt_e h0
  obtain ⟨rfl, h0⟩ := h0
  refine tc tbk 3 (.mk ?_)
  refine c_drawE [0, 1, 0, 4, 0, 28, 0, 3, 191, 511, 1023] (rl [(0, [5]), (1, [5]), (2, [2]), (3, [2])] []) (rl [(7, [2])] [2, 5]) (rl [(7, false)] true) [0, 1, 2, 3, 4, 5, 6, 7, 8, 9, 10] mixed (by kernel_rfl) ?_; intro K hK
  refine eF fo173_0 ?_
  refine eL sh31 ?_
  refine eF fo57_1 ?_
  refine eL sh3 ?_
  refine eM ?_
  obtain ⟨x39, e39, h0⟩ := bnd_e h0
  refine eP (fun H hH => yv_sub rfl rfl rfl e39) ?_
  refine eM ?_
  refine de_eff0 rfl rfl rfl rfl (Yield.weak (yl_ob (ob' := (⟨31, 10, true, true, v8, [[int a1.Master.Entities, int a1.Master.Periods, lst 1 fI a1.Master.Weights, lst 1 (fL 1 fI) a1.Master.Methods, lst 1 (fL 1 fI) a1.Master.Costs, .sl 7 w1_1 0 a1.Ents.length, lst 8 GReceipt.av a1.Receipts, lst 9 GSale.av a1.Sales, lst 6 GTransit.av a1.Transits, int a1.Done]]⟩ : AObj)) (yl_store rfl sh31 rfl rfl rfl rfl rfl rfl rfl rfl rfl) rfl) (fun _ h => h) (fun _ _ => trivial)) (by rintro _ _ ⟨rfl, rfl⟩; exact ⟨rfl, trivial⟩) ?_; rintro _ _ ⟨rfl, rfl⟩
  iterate 3 refine eA ?_
  refine de_nil (hK _ ?_)
  obtain rfl := nxt_e h0
  refine wR hret (rC sh31 (rT (rT (rT .nil)))) ?_
  exact CvL.tup (.cons (CvL.agg (.cons (.refl _) (.cons (.refl _) (.cons (.refl _) (.cons (.refl _) (.cons (.refl _) (.cons (cv_ov rfl rfl rfl rfl rfl (Eq.symm rfl) e32 (cvl_to (.cons (.refl _) (.cons (.refl _) (.cons (cv_lst rfl rfl rfl rfl rfl (Eq.symm rfl)) (.cons (.refl _) (.cons (.refl _) (.cons (.refl _) (.cons (.refl _) (.cons (.refl _) .nil)))))))) (GEnt.av_eq _))) (.cons (.refl _) (.cons (.refl _) (.cons (.refl _) (.cons (.refl _) .nil))))))))))) (.cons (.refl _) (.cons (.refl _) (.cons (.refl _) .nil))))
end Go.Pv
