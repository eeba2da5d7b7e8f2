import Derived.Test.YtbcjcecegdfnpaaGreatK6b
set_option linter.unusedVariables false
namespace Go.Pv
open Go.Proofs
set_option maxRecDepth 10000
set_option maxHeartbeats 1000000
def d_pavg_Free_L0 (a1 : GPool) : Nat → Int → Int → Option (Int)
  | 0, _, _ => none
  | n + 1, y0_1, y0_2 =>
    bnd (decide (y0_2 < (a1.Layers.length : Int))) fun x4 =>
    cond x4 ((ix a1.Layers y0_2).bind fun x5 =>
    bnd (w64 (y0_1 + x5.Qty)) fun x7 =>
    bnd (w64 (y0_2 + 1)) fun x8 =>
    d_pavg_Free_L0 a1 n (x7 : Int) (x8 : Int)) (some (y0_1 : Int))
def d_pavg_Free_L1 (a1 : GPool) : Nat → Int → Int → Option (Int)
  | 0, _, _ => none
  | n + 1, y2_1, y2_2 =>
    bnd (decide (y2_2 < 3)) fun x10 =>
    cond x10 ((ix ([a1.Pend.a0, a1.Pend.a1, a1.Pend.a2] : List Int) y2_2).bind fun x11 =>
    bnd (w64 (y2_1 - x11)) fun x12 =>
    bnd (w64 (y2_2 + 1)) fun x13 =>
    d_pavg_Free_L1 a1 n (x12 : Int) (x13 : Int)) (some (y2_1 : Int))
def d_pavg_Free (n : Nat) (a1 : GPool) : Option (Int) :=
(show Option (Int) from
d_pavg_Free_L0 a1 n (0 : Int) (0 : Int)).bind <| fun y1_1 =>
(show Option (Int) from
d_pavg_Free_L1 a1 n (y1_1 : Int) (0 : Int)).bind <| fun y3_1 =>
some ((y3_1 : Int))
theorem d_pavg_Free_c {n : Nat} {a1 : GPool} {r : Int} (h0 : d_pavg_Free n a1 = some r) : PP Tryz.prog 163 [.agg (GPool.av a1)] (fun y => y = int r) := by
  unfold d_pavg_Free at h0
  refine pp_of_pc (R0 := fun y H => Cv (frzH H) y (int r)) ?_ (fun y H hc => ⟨_, rfl, pvI r, hc⟩)
  refine pcw (c := _) Tryz.func163 rfl rfl ?_; intro Q hret hnorm
  refine tc tbk 2 (.mk ?_)
  refine rse rfl rfl rfl (yl_box 1 .any rfl rfl rfl) ?_; rintro _ _ ⟨v2, -, rfl, rfl⟩
  refine tr tbk 11 (.mk ?_)
  refine rst rfl rfl rfl (yv_len_sl rfl Tryz.underlying66 rfl (lst_len _)) ?_
  refine tr tbk 2 (.mk ?_)
  refine jn h0 [1, 2] [1] (fun (a : Int) (k : Unit) => [(3, int a)]) (fun a k => []) ⟨fun j3 h1 => ?_, ?_⟩
  refine tc tbk 1 (.mk ?_)
  refine lp (fun n (a : Int × Int) => d_pavg_Free_L0 a1 n a.1 a.2) ((0 : Int), (0 : Int)) () h1 [1, 2, 9, 10] [1] (fun (a : Int × Int) (k : Unit) => [(3, int a.1), (11, int a.2)]) (fun a k => []) (fun _ => rfl) ⟨leA, ?_⟩
  rintro n ⟨y0_1, y0_2⟩ _ hm h1
  replace h1 : d_pavg_Free_L0 a1 (n + 1) y0_1 y0_2 = some _ := h1
  rw [d_pavg_Free_L0] at h1
  refine tc tbk 2 (.mk ?_)
  refine nb tbk h1 fun x4 h1 => ?_
  refine tr tbk 2 (.mk ?_)
  cases x4
  replace h1 := cf h1
  refine tc tbk 2 (.mk ?_)
  exact lf h1 () leA
  replace h1 := ct h1
  refine tc tbk 6 (.mk ?_)
  obtain ⟨x5, e5, h1⟩ := bind_e h1
  refine rst rfl rfl rfl (yv_ixT rfl Tryz.underlying66 sh46 rfl rfl e5) ?_
  refine tr tbk 1 (.mk ?_)
  refine rse rfl rfl rfl (yl_alloc 2 .any rfl z46 rfl) ?_; rintro _ _ ⟨v6, -, rfl, rfl⟩
  refine sS ⟨46, 3, true, true, v6, [[int x5.Qty, int x5.Value, int x5.Profit]]⟩ sh46 ?_
  refine tr tbk 5 (.mk ?_)
  refine ni tbk h1 fun x7 h1 => ?_
  refine tr tbk 4 (.mk ?_)
  refine ni tbk h1 fun x8 h1 => ?_
  refine tr tbk 2 (.mk ?_)
  exact bk (x7, x8) () h1 leA
  rintro y1_1 _ h0
  refine tc tbk 7 (.mk ?_)
  refine jn h0 [2] [] (fun (a : Int) (k : Unit) => [(3, int a)]) (fun a k => []) ⟨fun j9 h1 => ?_, ?_⟩
  refine tc tbk 1 (.mk ?_)
  refine lp (fun n (a : Int × Int) => d_pavg_Free_L1 a1 n a.1 a.2) ((y1_1 : Int), (0 : Int)) () h1 [2, 21] [] (fun (a : Int × Int) (k : Unit) => [(3, int a.1), (22, int a.2)]) (fun a k => []) (fun _ => rfl) ⟨leA, ?_⟩
  rintro n ⟨y2_1, y2_2⟩ _ hm h1
  replace h1 : d_pavg_Free_L1 a1 (n + 1) y2_1 y2_2 = some _ := h1
  rw [d_pavg_Free_L1] at h1
  refine tc tbk 2 (.mk ?_)
  refine nb tbk h1 fun x10 h1 => ?_
  refine tr tbk 2 (.mk ?_)
  cases x10
  replace h1 := cf h1
  refine tc tbk 2 (.mk ?_)
  exact lf h1 () leA
  replace h1 := ct h1
  refine tc tbk 6 (.mk ?_)
  obtain ⟨x11, e11, h1⟩ := bind_e h1
  refine rst rfl rfl rfl (yv_indexAT (g := fI) (l := ([a1.Pend.a0, a1.Pend.a1, a1.Pend.a2] : List Int)) (v := x11) (w := int x11) rfl Tryz.underlying67 sh3 rfl rfl rfl e11 (fun _ => rfl) hw1) ?_
  refine tr tbk 5 (.mk ?_)
  refine ni tbk h1 fun x12 h1 => ?_
  refine tr tbk 4 (.mk ?_)
  refine ni tbk h1 fun x13 h1 => ?_
  refine tr tbk 2 (.mk ?_)
  exact bk (x12, x13) () h1 leA
  rintro y3_1 _ h0
  refine tc tbk 5 (.mk ?_)
  obtain rfl := nxt_e h0
  refine w_ret (hret _ _ _ (.tmp rfl .nil) (fun _ _ h => h) ?_)
  exact .refl _
def d_pavg_own (a1 : GPool) (a2 : List GLayer) : Option (GPool) :=
asrt (a2.length ≤ 68719476736) <|
some (((⟨a2, a1.Pend⟩ : GPool) : GPool))
theorem d_pavg_own_c {a1 : GPool} {a2 : List GLayer} {r : GPool} (h0 : d_pavg_own a1 a2 = some r) : PP Tryz.prog 142 [.agg (GPool.av a1), lst 3 GLayer.av a2] (fun y => y = .agg (GPool.av r)) := by
  unfold d_pavg_own at h0
  refine pp_of_pc (R0 := fun y H => Cv (frzH H) y (.agg (GPool.av r))) ?_ (fun y H hc => ⟨_, rfl, (fun (a : GPool) => PV.agg (GPool.pvc a)) r, hc⟩)
  refine pcw (c := _) Tryz.func142 rfl rfl ?_; intro Q hret hnorm
  refine tc tbk 2 (.mk ?_)
  refine rse rfl rfl rfl (yl_box 1 .any rfl rfl rfl) ?_; rintro _ _ ⟨v3, -, rfl, rfl⟩
  refine rse rfl rfl rfl (yl_alloc 2 .any rfl z69 rfl) ?_; rintro _ _ ⟨v4, -, rfl, rfl⟩
  refine tr tbk 4 (.mk ?_)
  obtain ⟨p5, h0⟩ := asrt_e h0
  refine rse rfl rfl rfl (yl_app0T (g := GLayer.av) (m := a2) 3 rfl Tryz.underlying66 bz46 by46 rfl rfl rfl rfl (.refl _) (fun _ => rfl) p5) ?_; rintro _ _ ⟨v6, rfl, rfl⟩
  refine tr tbk 1 (.mk ?_)
  refine sS ⟨69, 4, true, true, v3, [[.sl 3 v6 0 a2.length, int a1.Pend.a0, int a1.Pend.a1, int a1.Pend.a2]]⟩ sh66 ?_
  refine tr tbk 4 (.mk ?_)
  refine sS ⟨69, 4, true, true, v4, [[.sl 3 v6 0 a2.length, int a1.Pend.a0, int a1.Pend.a1, int a1.Pend.a2]]⟩ sh69 ?_
  refine tr tbk 1 (.mk ?_)
  obtain rfl := nxt_e h0
  refine w_ret (hret _ _ _ (.cell rfl (.pt rfl rfl rfl) sh69 rfl .nil) (fun _ _ h => h) ?_)
  exact (CvL.agg (.cons (cv_lst rfl rfl rfl rfl rfl (Eq.symm rfl)) (.cons (.refl _) (.cons (.refl _) (.cons (.refl _) .nil)))))
def d_fifo_Out_L0 : Nat → Nat → Nat → Int → (List GLayer) → GLayer → Option (Nat × Nat × (List GLayer) × GLayer)
  | 0, _, _, _, _, _ => none
  | n + 1, y0_1, y0_2, y0_3, y0_4, y0_5 =>
    (show Option (Bool) from
    bnd (decide ((y0_2 : Int) > 0)) fun x12 =>
    cond x12 (bnd (decide (y0_3 > 0)) fun x13 =>
    some (x13 : Bool)) (some (false : Bool))).bind <| fun y1_1 =>
    cond y1_1 (asrt ((0 : Int) ≤ 0 ∧ 0 < (y0_2 : Int)) <|
    (ix y0_4 (((y0_1 : Nat) : Int) + 0)).bind fun x15 =>
    bnd (decide (x15.Qty > y0_3)) fun x17 =>
    (show Option (Nat × Nat × (List GLayer) × GLayer) from
    cond x17 ((d_money_Part n x15.Value y0_3 x15.Qty).bind fun x21 =>
    (d_money_Part n x15.Profit y0_3 x15.Qty).bind fun x22 =>
    asrt ((0 : Int) ≤ 0 ∧ 0 < (y0_2 : Int)) <|
    bnd (w64 (x15.Qty - y0_3)) fun x24 =>
    asrt ((0 : Int) ≤ 0 ∧ 0 < (y0_2 : Int)) <|
    bnd (w64 (x15.Value - x21)) fun x26 =>
    asrt ((0 : Int) ≤ 0 ∧ 0 < (y0_2 : Int)) <|
    bnd (w64 (x15.Profit - x22)) fun x28 =>
    asrt ((0 : Int) ≤ 0 ∧ 0 < (y0_2 : Int)) <|
    bnd (y0_4.set (Int.toNat (((y0_1 : Nat) : Int) + 0)) ((⟨x24, x15.Value, x15.Profit⟩ : GLayer) : GLayer)) fun x30 =>
    asrt ((0 : Int) ≤ 0 ∧ 0 < (y0_2 : Int)) <|
    bnd (x30.set (Int.toNat (((y0_1 : Nat) : Int) + 0)) ((⟨((⟨x24, x15.Value, x15.Profit⟩ : GLayer) : GLayer).Qty, x26, ((⟨x24, x15.Value, x15.Profit⟩ : GLayer) : GLayer).Profit⟩ : GLayer) : GLayer)) fun x32 =>
    asrt ((0 : Int) ≤ 0 ∧ 0 < (y0_2 : Int)) <|
    bnd (x32.set (Int.toNat (((y0_1 : Nat) : Int) + 0)) ((⟨((⟨((⟨x24, x15.Value, x15.Profit⟩ : GLayer) : GLayer).Qty, x26, ((⟨x24, x15.Value, x15.Profit⟩ : GLayer) : GLayer).Profit⟩ : GLayer) : GLayer).Qty, ((⟨((⟨x24, x15.Value, x15.Profit⟩ : GLayer) : GLayer).Qty, x26, ((⟨x24, x15.Value, x15.Profit⟩ : GLayer) : GLayer).Profit⟩ : GLayer) : GLayer).Value, x28⟩ : GLayer) : GLayer)) fun x34 =>
    some ((y0_1 : Nat), (y0_2 : Nat), (x34 : List GLayer), ((⟨y0_3, x21, x22⟩ : GLayer) : GLayer))) (asrt ((0 : Int) ≤ 1 ∧ 1 ≤ (y0_2 : Int) ∧ (y0_2 : Int) ≤ (y0_2 : Int) ∧ 1 < (y0_2 + 1 : Int)) <|
    bnd (if (Int.toNat (y0_2 : Int)) = 1 then y0_1 else y0_1 + 1) fun x20 =>
    some ((x20 : Nat), (((Int.toNat (y0_2 : Int)) - 1) : Nat), (y0_4 : List GLayer), (x15 : GLayer)))).bind <| p2 fun (y2_1 : Nat) (q0 : Nat × (List GLayer) × GLayer) => (p2 fun (y2_2 : Nat) (q1 : (List GLayer) × GLayer) => (p2 fun (y2_3 : List GLayer) (y2_4 : GLayer) =>
    bnd (w64 (y0_5.Qty + y2_4.Qty)) fun x35 =>
    bnd (w64 (y0_5.Value + y2_4.Value)) fun x36 =>
    bnd (w64 (y0_5.Profit + y2_4.Profit)) fun x37 =>
    bnd (w64 (y0_3 - y2_4.Qty)) fun x38 =>
    d_fifo_Out_L0 n (y2_1 : Nat) (y2_2 : Nat) (x38 : Int) (y2_3 : List GLayer) ((⟨x35, x36, x37⟩ : GLayer) : GLayer)) q1) q0) (some ((y0_1 : Nat), (y0_2 : Nat), (y0_4 : List GLayer), (y0_5 : GLayer)))
def d_fifo_Out (n : Nat) (a1 : List GLayer) (a2 : Int) : Option ((List GLayer) × GLayer × Int) :=
asrt (a1.length ≤ 68719476736) <|
bnd (decide (a2 < 1)) fun x6 =>
cond x6 (some ((a1 : List GLayer), ((⟨0, 0, 0⟩ : GLayer) : GLayer), (1 : Int))) ((d_fifo_has n a1 a2).bind fun x7 =>
bnd (!x7) fun x8 =>
cond x8 (some ((a1 : List GLayer), ((⟨0, 0, 0⟩ : GLayer) : GLayer), (5 : Int))) ((show Option (Nat × Nat × (List GLayer) × GLayer) from
d_fifo_Out_L0 n (0 : Nat) (a1.length : Nat) (a2 : Int) (a1 : List GLayer) ((⟨0, 0, 0⟩ : GLayer) : GLayer)).bind <| p2 fun (y3_1 : Nat) (q0 : Nat × (List GLayer) × GLayer) => (p2 fun (y3_2 : Nat) (q1 : (List GLayer) × GLayer) => (p2 fun (y3_3 : List GLayer) (y3_4 : GLayer) =>
asrt (y3_1 + y3_2 ≤ y3_3.length) <|
some (((((y3_3).drop y3_1).take y3_2) : List GLayer), (y3_4 : GLayer), (0 : Int))) q1) q0))
theorem d_fifo_Out_c {n : Nat} {a1 : List GLayer} {a2 : Int} {r : (List GLayer) × GLayer × Int} (h0 : d_fifo_Out n a1 a2 = some r) : PP Tryz.prog 187 [lst 3 GLayer.av a1, int a2] (fun y => y = .tup [lst 3 GLayer.av r.1, .agg (GLayer.av r.2.1), int r.2.2]) := by
  unfold d_fifo_Out at h0
  refine pp_of_pc (R0 := fun y H => Cv (frzH H) y (.tup [lst 3 GLayer.av r.1, .agg (GLayer.av r.2.1), int r.2.2])) ?_ (fun y H hc => ⟨_, rfl, .tup (pvl3 ((pvLs GLayer.pvc) (r.1)) ((fun (a : GLayer) => PV.agg (GLayer.pvc a)) (r.2.1)) (pvI (r.2.2))), hc⟩)
  refine pcw (c := _) Tryz.func187 rfl rfl ?_; intro Q hret hnorm
  refine tc tbk 3 (.mk ?_)
  refine rse rfl rfl rfl (yl_alloc 1 .any rfl z46 rfl) ?_; rintro _ _ ⟨v3, -, rfl, rfl⟩
  refine tr tbk 5 (.mk ?_)
  obtain ⟨p4, h0⟩ := asrt_e h0
  refine rse rfl rfl rfl (yl_call rfl rfl (.cons rfl .nil) cal144 (pc_cv (clone144_c (id := 2) (l := a1) rfl p4) (.cons (.refl _) .nil))) ?_; rintro _ _ ⟨v5, rfl, rfl⟩
  refine tr tbk 6 (.mk ?_)
  refine nb tbk h0 fun x6 h0 => ?_
  refine tr tbk 1 (.mk ?_)
  cases x6
  replace h0 := cf h0
  refine tc tbk 7 (.mk ?_)
  obtain ⟨x7, e7, h0⟩ := bind_e h0
  refine rst rfl rfl rfl (yv_callT (v := boo x7) rfl rfl (.cons rfl (.cons rfl .nil)) cal189 (.cons (cv_lst rfl rfl rfl rfl rfl (Eq.symm rfl)) (.cons (.refl _) .nil)) (d_fifo_has_c e7) rfl) ?_
  refine nb tbk h0 fun x8 h0 => ?_
  refine tr tbk 1 (.mk ?_)
  cases x8
  replace h0 := cf h0
  refine tc tbk 4 (.mk ?_)
  refine rse rfl rfl rfl (yl_alloc 3 .any rfl z46 rfl) ?_; rintro _ _ ⟨v9, -, rfl, rfl⟩
  refine tr tbk 2 (.mk ?_)
  refine jn h0 [4, 5, 6, 7] [1] (fun (a : Nat × Nat × (List GLayer) × GLayer) (k : Unit) => [(0, .sl 2 v5 a.1 a.2.1)]) (fun a k => [(2, ⟨46, 3, true, true, v5, a.2.2.1.map GLayer.av⟩), (3, ⟨46, 3, true, true, v9, [[int a.2.2.2.Qty, int a.2.2.2.Value, int a.2.2.2.Profit]]⟩)]) ⟨fun j10 h1 => ?_, ?_⟩
  refine tc tbk 1 (.mk ?_)
  refine lp (fun n (a : Nat × Nat × Int × (List GLayer) × GLayer) => d_fifo_Out_L0 n a.1 a.2.1 a.2.2.1 a.2.2.2.1 a.2.2.2.2) ((0 : Nat), (a1.length : Nat), (a2 : Int), (a1 : List GLayer), ((⟨0, 0, 0⟩ : GLayer) : GLayer)) () h1 [4, 5, 6, 7] [1] (fun (a : Nat × Nat × Int × (List GLayer) × GLayer) (k : Unit) => [(0, .sl 2 v5 a.1 a.2.1), (1, int a.2.2.1)]) (fun a k => [(2, ⟨46, 3, true, true, v5, a.2.2.2.1.map GLayer.av⟩), (3, ⟨46, 3, true, true, v9, [[int a.2.2.2.2.Qty, int a.2.2.2.2.Value, int a.2.2.2.2.Profit]]⟩)]) (fun _ => rfl) ⟨leA, ?_⟩
  rintro n ⟨y0_1, y0_2, y0_3, y0_4, y0_5⟩ _ hm h1
  replace h1 : d_fifo_Out_L0 (n + 1) y0_1 y0_2 y0_3 y0_4 y0_5 = some _ := h1
  rw [d_fifo_Out_L0] at h1
  refine tc tbk 2 (.mk ?_)
  refine jn h1 [0, 1, 4, 5, 6, 7] [1, 2, 3] (fun (a : Bool) (k : Unit) => [(27, boo a)]) (fun a k => []) ⟨fun j11 h2 => ?_, ?_⟩
  refine tc tbk 2 (.mk ?_)
  refine rst rfl rfl rfl (yv_len_sl rfl Tryz.underlying66 rfl (.sl rfl rfl)) ?_
  refine nb tbk h2 fun x12 h2 => ?_
  refine tr tbk 1 (.mk ?_)
  cases x12
  replace h2 := cf h2
  refine tr tbk 4 (.mk ?_)
  exact lf h2 () leA
  replace h2 := ct h2
  refine tr tbk 1 (.mk ?_)
  refine nb tbk h2 fun x13 h2 => ?_
  refine tr tbk 2 (.mk ?_)
  exact lf h2 () leA
  rintro y1_1 _ h1
  cases y1_1
  replace h1 := cf h1
  refine tc tbk 2 (.mk ?_)
  exact lf h1 () leA
  replace h1 := ct h1
  refine tc tbk 6 (.mk ?_)
  obtain ⟨p14, h1⟩ := asrt_e h1
  obtain ⟨x15, e15, h1⟩ := bind_e h1
  refine rst rfl rfl rfl (yv_ixW rfl Tryz.underlying66 sh46 rfl rfl rfl rfl rfl p14 (List.length_map _) e15) ?_
  refine rst rfl rfl rfl (yv_load rfl sh46 rfl (.pt rfl rfl (ix_get e15)) rfl) ?_
  refine rse rfl rfl rfl (yl_alloc 4 .any rfl z46 rfl) ?_; rintro _ _ ⟨v16, -, rfl, rfl⟩
  refine sS ⟨46, 3, true, true, v16, [[int x15.Qty, int x15.Value, int x15.Profit]]⟩ sh46 ?_
  refine tr tbk 7 (.mk ?_)
  refine nb tbk h1 fun x17 h1 => ?_
  refine tr tbk 1 (.mk ?_)
  refine jn h1 [1, 4, 5, 6, 7, 8] [1, 3] (fun (a : Nat × Nat × (List GLayer) × GLayer) (k : Unit) => [(0, .sl 2 v5 a.1 a.2.1)]) (fun a k => [(2, ⟨46, 3, true, true, v5, a.2.2.1.map GLayer.av⟩), (4, ⟨46, 3, true, true, v16, [[int a.2.2.2.Qty, int a.2.2.2.Value, int a.2.2.2.Profit]]⟩)]) ⟨fun j18 h2 => ?_, ?_⟩
  cases x17
  replace h2 := cf h2
  refine tc tbk 4 (.mk ?_)
  refine rst rfl rfl rfl (yv_len_sl rfl Tryz.underlying66 rfl (.sl rfl rfl)) ?_
  refine tr tbk 1 (.mk ?_)
  refine rst rfl rfl rfl (yv_len_sl rfl Tryz.underlying66 rfl (.sl rfl rfl)) ?_
  obtain ⟨p19, h2⟩ := asrt_e h2
  obtain ⟨x20, e20, h2⟩ := bnd_e h2
  refine rst rfl rfl rfl (yv_slO3 (len := y0_2) (i := 1) (j := (Int.toNat (y0_2 : Int))) rfl Tryz.underlying66 sh46 rfl rfl rfl rfl (.yes rfl (by first | omega | (dsimp only; omega) | (dsimp only at *; omega))) (.yes rfl (by first | omega | (dsimp only; omega) | (dsimp only at *; omega))) (.yes rfl (by first | omega | (dsimp only; omega) | (dsimp only at *; omega))) (by first | omega | (dsimp only; omega) | (dsimp only at *; omega)) (by first | omega | (dsimp only; omega) | (dsimp only at *; omega)) e20) ?_
  refine tr tbk 2 (.mk ?_)
  exact lf h2 () leA
  replace h2 := ct h2
  refine tc tbk 2 (.mk ?_)
  refine c_drawE [0, 0, 2, 0, 0, 16, 62, 0, 128, 0, 0, 1024, 4094, 8191, 16383] (rl [(1, [4]), (2, [4]), (4, [4]), (5, [4]), (7, [4]), (8, [4]), (10, [4]), (11, [4])] []) (rl [(14, [])] [4]) (rl [(14, false)] true) [0, 1, 2, 3, 4, 5, 6, 7, 8, 9, 10, 11, 12, 13, 14] mixed (by kernel_rfl) ?_; intro K hK
  refine eM ?_
  refine eF fo46_1 ?_
  refine eL sh3 ?_
  refine eM ?_
  refine eF fo46_0 ?_
  refine eL sh3 ?_
  obtain ⟨x21, e21, h2⟩ := bind_e h2
  refine eP (fun H hH => yv_callP rfl rfl (.cons rfl (.cons rfl (.cons rfl .nil))) cal91 (CvL.refl _) (d_money_Part_c e21)) ?_
  refine eF fo46_2 ?_
  refine eL sh3 ?_
  refine eM ?_
  refine eF fo46_0 ?_
  refine eL sh3 ?_
  obtain ⟨x22, e22, h2⟩ := bind_e h2
  refine eP (fun H hH => yv_callP rfl rfl (.cons rfl (.cons rfl (.cons rfl .nil))) cal91 (CvL.refl _) (d_money_Part_c e22)) ?_
  refine eP (fun H hH => yv_build (cs := [int y0_3, int x21, int x22]) (ps := [(0, _), (1, _), (2, _)]) rfl pl46 z46 rfl (.cons rfl (.cons rfl (.cons rfl .nil))) (by kernel_rfl)) ?_
  refine de_eff0 rfl rfl rfl rfl (Yield.weak (yl_ob (ob' := (⟨46, 3, true, true, v16, [[int y0_3, int x21, int x22]]⟩ : AObj)) (yl_store rfl sh46 rfl rfl rfl rfl rfl rfl rfl rfl rfl) rfl) (fun _ h => h) (fun _ _ => trivial)) (by rintro _ _ ⟨rfl, rfl⟩; exact trivial) ?_; rintro _ _ ⟨rfl, rfl⟩
  refine de_nil (hK _ ?_)
  refine c_drawE [0, 0, 0, 0, 8, 24, 56, 0, 128, 504, 0, 1024, 3072, 7168, 0, 16384, 64512, 0, 131072, 393216, 917504, 0, 2097152, 8257536, 1982457, 18759673, 52314105, 119537659, 253755387, 522190843, 1073741823, 2147483647, 4294967295] (rl [(4, [2]), (5, [2]), (6, [2]), (7, [4]), (8, [4]), (11, [2]), (12, [2]), (13, [2]), (14, [4]), (15, [4]), (18, [2]), (19, [2]), (20, [2]), (21, [4]), (22, [4]), (24, [2]), (25, [2]), (27, [2]), (28, [2]), (30, [2]), (31, [2])] []) (rl [(26, [4]), (29, [4]), (32, [])] [2, 4]) (rl [(26, false), (29, false), (32, false)] true) [0, 1, 2, 3, 4, 5, 6, 7, 8, 9, 10, 11, 12, 13, 14, 15, 16, 17, 18, 19, 20, 21, 22, 23, 24, 25, 26, 27, 28, 29, 30, 31, 32] mixed (by kernel_rfl) ?_; intro K hK
  iterate 4 refine eM ?_
  obtain ⟨p23, h2⟩ := asrt_e h2
  refine de_pure rfl rfl rfl rfl (fun H hH => yv_ixW rfl Tryz.underlying66 sh46 rfl rfl ((hH _ (by decide)).trans rfl) rfl rfl p23 (List.length_map _) e15) ?_
  refine eF fo46_0 (hr := ix_get e15) ?_
  refine eL sh3 (hr := ix_get e15) ?_
  refine eF fo46_0 ?_
  refine eL sh3 ?_
  obtain ⟨x24, e24, h2⟩ := bnd_e h2
  refine eP (fun H hH => yv_sub rfl rfl rfl e24) ?_
  refine eM ?_
  obtain ⟨p25, h2⟩ := asrt_e h2
  refine de_pure rfl rfl rfl rfl (fun H hH => yv_ixW rfl Tryz.underlying66 sh46 rfl rfl ((hH _ (by decide)).trans rfl) rfl rfl p25 (List.length_map _) e15) ?_
  refine eF fo46_1 (hr := ix_get e15) ?_
  refine eL sh3 (hr := ix_get e15) ?_
  refine eF fo46_1 ?_
  refine eL sh3 ?_
  obtain ⟨x26, e26, h2⟩ := bnd_e h2
  refine eP (fun H hH => yv_sub rfl rfl rfl e26) ?_
  refine eM ?_
  obtain ⟨p27, h2⟩ := asrt_e h2
  refine de_pure rfl rfl rfl rfl (fun H hH => yv_ixW rfl Tryz.underlying66 sh46 rfl rfl ((hH _ (by decide)).trans rfl) rfl rfl p27 (List.length_map _) e15) ?_
  refine eF fo46_2 (hr := ix_get e15) ?_
  refine eL sh3 (hr := ix_get e15) ?_
  refine eF fo46_2 ?_
  refine eL sh3 ?_
  obtain ⟨x28, e28, h2⟩ := bnd_e h2
  refine eP (fun H hH => yv_sub rfl rfl rfl e28) ?_
  obtain ⟨p29, h2⟩ := asrt_e h2
  refine de_pure rfl rfl rfl rfl (fun H hH => yv_ixW rfl Tryz.underlying66 sh46 rfl rfl ((hH _ (by decide)).trans rfl) rfl rfl p29 (List.length_map _) e15) ?_
  refine eF fo46_0 (hr := ix_get e15) ?_
  obtain ⟨x30, e30, h2⟩ := bnd_e h2
  have fx30 := ix_set e15 e30; have lx30 := len_setV e30 (rfl : y0_4.length = y0_4.length)
  refine de_eff0 rfl rfl rfl rfl (Yield.weak (yl_ob (ob' := (⟨46, 3, true, true, v5, x30.map GLayer.av⟩ : AObj)) (yl_store rfl sh3 rfl rfl rfl rfl rfl (ix_get e15) rfl rfl rfl) (ob_eq (map_setV e30))) (fun _ h => h) (fun _ _ => trivial)) (by rintro _ _ ⟨rfl, rfl⟩; exact ⟨rfl, trivial⟩) ?_; rintro _ _ ⟨rfl, rfl⟩
  obtain ⟨p31, h2⟩ := asrt_e h2
  refine de_pure rfl rfl rfl rfl (fun H hH => yv_ixW rfl Tryz.underlying66 sh46 rfl rfl ((hH _ (by decide)).trans rfl) rfl rfl p31 (List.length_map _) fx30) ?_
  refine eF fo46_1 (hr := ix_get fx30) ?_
  obtain ⟨x32, e32, h2⟩ := bnd_e h2
  have fx32 := ix_set fx30 e32; have lx32 := len_setV e32 lx30
  refine de_eff0 rfl rfl rfl rfl (Yield.weak (yl_ob (ob' := (⟨46, 3, true, true, v5, x32.map GLayer.av⟩ : AObj)) (yl_store rfl sh3 rfl rfl rfl rfl rfl (ix_get fx30) rfl rfl rfl) (ob_eq (map_setV e32))) (fun _ h => h) (fun _ _ => trivial)) (by rintro _ _ ⟨rfl, rfl⟩; exact ⟨rfl, trivial⟩) ?_; rintro _ _ ⟨rfl, rfl⟩
  obtain ⟨p33, h2⟩ := asrt_e h2
  refine de_pure rfl rfl rfl rfl (fun H hH => yv_ixW rfl Tryz.underlying66 sh46 rfl rfl ((hH _ (by decide)).trans rfl) rfl rfl p33 (List.length_map _) fx32) ?_
  refine eF fo46_2 (hr := ix_get fx32) ?_
  obtain ⟨x34, e34, h2⟩ := bnd_e h2
  have fx34 := ix_set fx32 e34; have lx34 := len_setV e34 lx32
  refine de_eff0 rfl rfl rfl rfl (Yield.weak (yl_ob (ob' := (⟨46, 3, true, true, v5, x34.map GLayer.av⟩ : AObj)) (yl_store rfl sh3 rfl rfl rfl rfl rfl (ix_get fx32) rfl rfl rfl) (ob_eq (map_setV e34))) (fun _ h => h) (fun _ _ => trivial)) (by rintro _ _ ⟨rfl, rfl⟩; exact trivial) ?_; rintro _ _ ⟨rfl, rfl⟩
  refine de_nil (hK _ ?_)
  exact lf h2 () leA
  rintro ⟨y2_1, y2_2, y2_3, y2_4⟩ _ h1
  replace h1 := p2_e h1
  replace h1 := p2_e h1
  replace h1 := p2_e h1
  refine tc tbk 1 (.mk ?_)
  refine c_drawE [0, 1, 0, 4, 15, 0, 32, 0, 128, 480, 0, 1024, 0, 4096, 15360, 3199, 35967, 102399, 233471, 524287, 1048575] (rl [(0, [3]), (1, [3]), (2, [4]), (3, [4]), (5, [3]), (6, [3]), (7, [4]), (8, [4]), (10, [3]), (11, [3]), (12, [4]), (13, [4]), (15, [3]), (17, [3]), (19, [3])] []) (rl [(16, [4]), (18, [4]), (20, [])] [3, 4]) (rl [(16, false), (18, false), (20, false)] true) [0, 1, 2, 3, 4, 5, 6, 7, 8, 9, 10, 11, 12, 13, 14, 15, 16, 17, 18, 19, 20] mixed (by kernel_rfl) ?_; intro K hK
  refine eF fo46_0 ?_
  refine eL sh3 ?_
  refine eF fo46_0 ?_
  refine eL sh3 ?_
  obtain ⟨x35, e35, h1⟩ := bnd_e h1
  refine eP (fun H hH => yv_add rfl rfl rfl e35) ?_
  refine eF fo46_1 ?_
  refine eL sh3 ?_
  refine eF fo46_1 ?_
  refine eL sh3 ?_
  obtain ⟨x36, e36, h1⟩ := bnd_e h1
  refine eP (fun H hH => yv_add rfl rfl rfl e36) ?_
  refine eF fo46_2 ?_
  refine eL sh3 ?_
  refine eF fo46_2 ?_
  refine eL sh3 ?_
  obtain ⟨x37, e37, h1⟩ := bnd_e h1
  refine eP (fun H hH => yv_add rfl rfl rfl e37) ?_
  refine eF fo46_0 ?_
  refine de_eff0 rfl rfl rfl rfl (Yield.weak (yl_ob (ob' := (⟨46, 3, true, true, v9, [[int x35, int y0_5.Value, int y0_5.Profit]]⟩ : AObj)) (yl_store rfl sh3 rfl rfl rfl rfl rfl rfl rfl rfl rfl) rfl) (fun _ h => h) (fun _ _ => trivial)) (by rintro _ _ ⟨rfl, rfl⟩; exact ⟨rfl, trivial⟩) ?_; rintro _ _ ⟨rfl, rfl⟩
  refine eF fo46_1 ?_
  refine de_eff0 rfl rfl rfl rfl (Yield.weak (yl_ob (ob' := (⟨46, 3, true, true, v9, [[int x35, int x36, int y0_5.Profit]]⟩ : AObj)) (yl_store rfl sh3 rfl rfl rfl rfl rfl rfl rfl rfl rfl) rfl) (fun _ h => h) (fun _ _ => trivial)) (by rintro _ _ ⟨rfl, rfl⟩; exact ⟨rfl, trivial⟩) ?_; rintro _ _ ⟨rfl, rfl⟩
  refine eF fo46_2 ?_
  refine de_eff0 rfl rfl rfl rfl (Yield.weak (yl_ob (ob' := (⟨46, 3, true, true, v9, [[int x35, int x36, int x37]]⟩ : AObj)) (yl_store rfl sh3 rfl rfl rfl rfl rfl rfl rfl rfl rfl) rfl) (fun _ h => h) (fun _ _ => trivial)) (by rintro _ _ ⟨rfl, rfl⟩; exact trivial) ?_; rintro _ _ ⟨rfl, rfl⟩
  refine de_nil (hK _ ?_)
  refine tc tbk 4 (.mk ?_)
  refine ni tbk h1 fun x38 h1 => ?_
  refine tr tbk 3 (.mk ?_)
  exact bk (y2_1, y2_2, x38, y2_3, (⟨x35, x36, x37⟩ : GLayer)) () h1 leA
  rintro ⟨y3_1, y3_2, y3_3, y3_4⟩ _ h0
  replace h0 := p2_e h0
  replace h0 := p2_e h0
  replace h0 := p2_e h0
  refine tc tbk 1 (.mk ?_)
  refine c_drawE [0, 0, 1, 7, 15] (rl [(1, [3])] []) (rl [(3, [])] [3]) (rl [(3, false)] true) [0, 1, 2, 3, 4] mixed (by kernel_rfl) ?_; intro K hK
  refine eM ?_
  refine eL sh46 ?_
  refine eA ?_
  refine de_eff0 rfl rfl rfl rfl (Yield.weak (yl_ob (ob' := (⟨46, 3, true, true, v3, [[int y3_4.Qty, int y3_4.Value, int y3_4.Profit]]⟩ : AObj)) (yl_store rfl sh46 rfl rfl rfl rfl rfl rfl rfl rfl rfl) rfl) (fun _ h => h) (fun _ _ => trivial)) (by rintro _ _ ⟨rfl, rfl⟩; exact trivial) ?_; rintro _ _ ⟨rfl, rfl⟩
  refine eA ?_
  refine de_nil (hK _ ?_)
  obtain ⟨p39, h0⟩ := asrt_e h0
  obtain rfl := nxt_e h0
  refine w_ret (hret _ _ _ (.tmp rfl (.cell rfl (.pt rfl rfl rfl) sh46 rfl (.tmp rfl .nil))) (fun _ _ h => h) ?_)
  exact CvL.tup (.cons (cv_win (l := y3_3) rfl rfl rfl rfl (CvLL.refl _) (by first | omega | (simp only [List.length_set]; omega)) rfl) (.cons (.refl _) (.cons (.refl _) .nil)))
  replace h0 := ct h0
  refine tc tbk 6 (.mk ?_)
  refine sS ⟨46, 3, true, true, v3, [[int 0, int 0, int 0]]⟩ sh46 ?_
  refine tr tbk 2 (.mk ?_)
  obtain rfl := nxt_e h0
  refine w_ret (hret _ _ _ (.tmp rfl (.cell rfl (.pt rfl rfl rfl) sh46 rfl (.tmp rfl .nil))) (fun _ _ h => h) ?_)
  exact CvL.tup (.cons (cv_lst rfl rfl rfl rfl rfl (Eq.symm rfl)) (.cons (.refl _) (.cons (.refl _) .nil)))
  replace h0 := ct h0
  refine tc tbk 6 (.mk ?_)
  refine sS ⟨46, 3, true, true, v3, [[int 0, int 0, int 0]]⟩ sh46 ?_
  refine tr tbk 2 (.mk ?_)
  obtain rfl := nxt_e h0
  refine w_ret (hret _ _ _ (.tmp rfl (.cell rfl (.pt rfl rfl rfl) sh46 rfl (.tmp rfl .nil))) (fun _ _ h => h) ?_)
  exact CvL.tup (.cons (cv_lst rfl rfl rfl rfl rfl (Eq.symm rfl)) (.cons (.refl _) (.cons (.refl _) .nil)))
def d_mavg_Out (n : Nat) (a1 : List GLayer) (a2 : Int) : Option ((List GLayer) × GLayer × Int) :=
(show Option ((Unit)) from
some ()).bind <| fun _ =>
(d_fifo_Out n a1 a2).bind fun x6 =>
some ((x6.1 : List GLayer), (x6.2.1 : GLayer), (x6.2.2 : Int))
theorem d_mavg_Out_c {n : Nat} {a1 : List GLayer} {a2 : Int} {r : (List GLayer) × GLayer × Int} (h0 : d_mavg_Out n a1 a2 = some r) : PP Tryz.prog 197 [lst 3 GLayer.av a1, int a2] (fun y => y = .tup [lst 3 GLayer.av r.1, .agg (GLayer.av r.2.1), int r.2.2]) := by
  unfold d_mavg_Out at h0
  refine pp_of_pc (R0 := fun y H => Cv (frzH H) y (.tup [lst 3 GLayer.av r.1, .agg (GLayer.av r.2.1), int r.2.2])) ?_ (fun y H hc => ⟨_, rfl, .tup (pvl3 ((pvLs GLayer.pvc) (r.1)) ((fun (a : GLayer) => PV.agg (GLayer.pvc a)) (r.2.1)) (pvI (r.2.2))), hc⟩)
  refine pcw (c := _) Tryz.func197 rfl rfl ?_; intro Q hret hnorm
  refine tc tbk 3 (.mk ?_)
  refine rse rfl rfl rfl (yl_alloc 1 .any rfl z46 rfl) ?_; rintro _ _ ⟨v3, -, rfl, rfl⟩
  refine tr tbk 4 (.mk ?_)
  obtain ⟨j4, h1, h0⟩ := bind_e h0
  refine rse (Out := fun y H' => (∃ (a : Unit) (k : Unit), a = j4 ∧ y = .agg [.fn (.func 186) [] [], .fn (.func 187) [] [], .fn (.func 115) [] []] ∧ H' = hk [(1, ⟨46, 3, true, true, v3, [[int 0, int 0, int 0]]⟩)])) rfl rfl rfl (yl_call rfl rfl .nil cal198 ?_) ?_
  refine pcw (c := _) Tryz.func198 rfl rfl ?_; intro Q hret hnorm
  refine tc tbk 2 (.mk ?_)
  refine rse rfl rfl rfl (yl_alloc 2 .any rfl z235 rfl) ?_; rintro _ _ ⟨v5, -, rfl, rfl⟩
  refine tr tbk 4 (.mk ?_)
  refine sS ⟨235, 3, true, true, v5, [[.fn (.func 186) [] [], .fn (.func 187) [] [], .fn (.func 115) [] []]]⟩ sh235 ?_
  refine tr tbk 1 (.mk ?_)
  obtain rfl := nxt_e h1
  refine w_ret (hret _ _ (hk [(1, ⟨46, 3, true, true, v3, [[int 0, int 0, int 0]]⟩)]) (.cell rfl (.pt rfl rfl rfl) sh235 rfl .nil) (HK.le ⟨rfl, trivial⟩) ?_)
  exact ⟨(), (), rfl, rfl, rfl⟩
  rintro y _ ⟨_, _, rfl, hc, rfl⟩
  subst hc
  refine tr tbk 3 (.mk ?_)
  obtain ⟨x6, e6, h0⟩ := bind_e h0
  refine rst rfl rfl rfl (yv_callP rfl rfl (.cons rfl (.cons rfl .nil)) cal187 (CvL.refl _) (d_fifo_Out_c e6)) ?_
  refine tr tbk 4 (.mk ?_)
  refine sS ⟨46, 3, true, true, v3, [[int x6.2.1.Qty, int x6.2.1.Value, int x6.2.1.Profit]]⟩ sh46 ?_
  refine tr tbk 2 (.mk ?_)
  obtain rfl := nxt_e h0
  refine w_ret (hret _ _ _ (.tmp rfl (.cell rfl (.pt rfl rfl rfl) sh46 rfl (.tmp rfl .nil))) (fun _ _ h => h) ?_)
  exact .refl _
def d_pavg_Out (n : Nat) (a1 : GPool) (a2 : Int) : Option (GPool × GLayer × Int) :=
bnd (decide (a2 < 1)) fun x6 =>
cond x6 ((d_pavg_own a1 a1.Layers).bind fun x13 =>
some ((x13 : GPool), ((⟨0, 0, 0⟩ : GLayer) : GLayer), (1 : Int))) ((d_pavg_Free n a1).bind fun x7 =>
bnd (decide (a2 > x7)) fun x8 =>
cond x8 ((d_pavg_own a1 a1.Layers).bind fun x12 =>
some ((x12 : GPool), ((⟨0, 0, 0⟩ : GLayer) : GLayer), (5 : Int))) ((d_mavg_Out n a1.Layers a2).bind fun x9 =>
(d_pavg_own a1 x9.1).bind fun x11 =>
some ((x11 : GPool), (x9.2.1 : GLayer), (x9.2.2 : Int))))
theorem d_pavg_Out_c {n : Nat} {a1 : GPool} {a2 : Int} {r : GPool × GLayer × Int} (h0 : d_pavg_Out n a1 a2 = some r) : PP Tryz.prog 202 [.agg (GPool.av a1), int a2] (fun y => y = .tup [.agg (GPool.av r.1), .agg (GLayer.av r.2.1), int r.2.2]) := by
  unfold d_pavg_Out at h0
  refine pp_of_pc (R0 := fun y H => Cv (frzH H) y (.tup [.agg (GPool.av r.1), .agg (GLayer.av r.2.1), int r.2.2])) ?_ (fun y H hc => ⟨_, rfl, .tup (pvl3 ((fun (a : GPool) => PV.agg (GPool.pvc a)) (r.1)) ((fun (a : GLayer) => PV.agg (GLayer.pvc a)) (r.2.1)) (pvI (r.2.2))), hc⟩)
  refine pcw (c := _) Tryz.func202 rfl rfl ?_; intro Q hret hnorm
  refine tc tbk 2 (.mk ?_)
  refine rse rfl rfl rfl (yl_box 1 .any rfl rfl rfl) ?_; rintro _ _ ⟨v3, -, rfl, rfl⟩
  refine rse rfl rfl rfl (yl_alloc 2 .any rfl z69 rfl) ?_; rintro _ _ ⟨v4, -, rfl, rfl⟩
  refine rse rfl rfl rfl (yl_alloc 3 .any rfl z46 rfl) ?_; rintro _ _ ⟨v5, -, rfl, rfl⟩
  refine tr tbk 7 (.mk ?_)
  refine nb tbk h0 fun x6 h0 => ?_
  refine tr tbk 2 (.mk ?_)
  cases x6
  replace h0 := cf h0
  refine tc tbk 5 (.mk ?_)
  obtain ⟨x7, e7, h0⟩ := bind_e h0
  refine rst rfl rfl rfl (yv_callP rfl rfl (.cons rfl .nil) cal163 (CvL.refl _) (d_pavg_Free_c e7)) ?_
  refine nb tbk h0 fun x8 h0 => ?_
  refine tr tbk 2 (.mk ?_)
  cases x8
  replace h0 := cf h0
  refine tc tbk 8 (.mk ?_)
  obtain ⟨x9, e9, h0⟩ := bind_e h0
  refine rst rfl rfl rfl (yv_callP rfl rfl (.cons rfl (.cons rfl .nil)) cal197 (CvL.refl _) (d_mavg_Out_c e9)) ?_
  refine tr tbk 4 (.mk ?_)
  refine rse rfl rfl rfl (yl_alloc 4 .any rfl z46 rfl) ?_; rintro _ _ ⟨v10, -, rfl, rfl⟩
  refine tr tbk 1 (.mk ?_)
  refine sS ⟨46, 3, true, true, v10, [[int x9.2.1.Qty, int x9.2.1.Value, int x9.2.1.Profit]]⟩ sh46 ?_
  refine tr tbk 3 (.mk ?_)
  refine c_drawE [0, 0, 3, 0, 0, 7, 47, 127] (rl [(0, [1]), (3, [4])] []) (rl [(5, [4]), (6, [])] [1, 4]) (rl [(5, false), (6, false)] true) [0, 1, 2, 3, 4, 5, 6, 7] mixed (by kernel_rfl) ?_; intro K hK
  refine eL sh69 ?_
  refine eM ?_
  obtain ⟨x11, e11, h0⟩ := bind_e h0
  refine eP (fun H hH => yv_callP rfl rfl (.cons rfl (.cons rfl .nil)) cal142 (CvL.refl _) (d_pavg_own_c e11)) ?_
  refine eL sh46 ?_
  refine eM ?_
  refine de_eff0 rfl rfl rfl rfl (Yield.weak (yl_ob (ob' := (⟨69, 4, true, true, v4, [[lst 3 GLayer.av x11.Layers, int x11.Pend.a0, int x11.Pend.a1, int x11.Pend.a2]]⟩ : AObj)) (yl_store rfl sh69 rfl rfl rfl rfl rfl rfl rfl rfl rfl) rfl) (fun _ h => h) (fun _ _ => trivial)) (by rintro _ _ ⟨rfl, rfl⟩; exact ⟨rfl, trivial⟩) ?_; rintro _ _ ⟨rfl, rfl⟩
  refine de_eff0 rfl rfl rfl rfl (Yield.weak (yl_ob (ob' := (⟨46, 3, true, true, v5, [[int x9.2.1.Qty, int x9.2.1.Value, int x9.2.1.Profit]]⟩ : AObj)) (yl_store rfl sh46 rfl rfl rfl rfl rfl rfl rfl rfl rfl) rfl) (fun _ h => h) (fun _ _ => trivial)) (by rintro _ _ ⟨rfl, rfl⟩; exact trivial) ?_; rintro _ _ ⟨rfl, rfl⟩
  refine eA ?_
  refine de_nil (hK _ ?_)
  obtain rfl := nxt_e h0
  refine w_ret (hret _ _ _ (.cell rfl (.pt rfl rfl rfl) sh69 rfl (.cell rfl (.pt rfl rfl rfl) sh46 rfl (.tmp rfl .nil))) (fun _ _ h => h) ?_)
  exact .refl _
  replace h0 := ct h0
  refine tc tbk 6 (.mk ?_)
  obtain ⟨x12, e12, h0⟩ := bind_e h0
  refine rst rfl rfl rfl (yv_callP rfl rfl (.cons rfl (.cons rfl .nil)) cal142 (CvL.refl _) (d_pavg_own_c e12)) ?_
  refine tr tbk 1 (.mk ?_)
  refine sS ⟨69, 4, true, true, v4, [[lst 3 GLayer.av x12.Layers, int x12.Pend.a0, int x12.Pend.a1, int x12.Pend.a2]]⟩ sh69 ?_
  refine sS ⟨46, 3, true, true, v5, [[int 0, int 0, int 0]]⟩ sh46 ?_
  refine tr tbk 2 (.mk ?_)
  obtain rfl := nxt_e h0
  refine w_ret (hret _ _ _ (.cell rfl (.pt rfl rfl rfl) sh69 rfl (.cell rfl (.pt rfl rfl rfl) sh46 rfl (.tmp rfl .nil))) (fun _ _ h => h) ?_)
  exact .refl _
  replace h0 := ct h0
  refine tc tbk 6 (.mk ?_)
  obtain ⟨x13, e13, h0⟩ := bind_e h0
  refine rst rfl rfl rfl (yv_callP rfl rfl (.cons rfl (.cons rfl .nil)) cal142 (CvL.refl _) (d_pavg_own_c e13)) ?_
  refine tr tbk 1 (.mk ?_)
  refine sS ⟨69, 4, true, true, v4, [[lst 3 GLayer.av x13.Layers, int x13.Pend.a0, int x13.Pend.a1, int x13.Pend.a2]]⟩ sh69 ?_
  refine sS ⟨46, 3, true, true, v5, [[int 0, int 0, int 0]]⟩ sh46 ?_
  refine tr tbk 2 (.mk ?_)
  obtain rfl := nxt_e h0
  refine w_ret (hret _ _ _ (.cell rfl (.pt rfl rfl rfl) sh69 rfl (.cell rfl (.pt rfl rfl rfl) sh46 rfl (.tmp rfl .nil))) (fun _ _ h => h) ?_)
  exact .refl _
def d_pavg_is (a1 : Int) : Option (Bool) :=
(show Option (Bool) from
bnd (decide (a1 ≥ 0)) fun x3 =>
cond x3 (bnd (decide (a1 < 3)) fun x4 =>
some (x4 : Bool)) (some (false : Bool))).bind <| fun y0_1 =>
some ((y0_1 : Bool))
theorem d_pavg_is_c {a1 : Int} {r : Bool} (h0 : d_pavg_is a1 = some r) : PP Tryz.prog 143 [int a1] (fun y => y = boo r) := by
  unfold d_pavg_is at h0
  refine pp_of_pc (R0 := fun y H => Cv (frzH H) y (boo r)) ?_ (fun y H hc => ⟨_, rfl, pvB r, hc⟩)
  refine pcw (c := _) Tryz.func143 rfl rfl ?_; intro Q hret hnorm
  refine tc tbk 5 (.mk ?_)
  refine jn h0 [] [] (fun (a : Bool) (k : Unit) => [(2, boo a)]) (fun a k => []) ⟨fun j2 h1 => ?_, ?_⟩
  refine tc tbk 2 (.mk ?_)
  refine nb tbk h1 fun x3 h1 => ?_
  refine tr tbk 1 (.mk ?_)
  cases x3
  replace h1 := cf h1
  refine tr tbk 5 (.mk ?_)
  exact lf h1 () leA
  replace h1 := ct h1
  refine tr tbk 1 (.mk ?_)
  refine nb tbk h1 fun x4 h1 => ?_
  refine tr tbk 3 (.mk ?_)
  exact lf h1 () leA
  rintro y0_1 _ h0
  obtain rfl := nxt_e h0
  refine w_ret (hret _ _ _ (.tmp rfl .nil) (fun _ _ h => h) ?_)
  exact .refl _
def d_pavg_Wait (n : Nat) (a1 : GPool) (a2 : Int) (a3 : Int) : Option (GPool × Int) :=
(d_pavg_own a1 a1.Layers).bind fun x6 =>
(show Option (Bool) from
(d_pavg_is a2).bind fun x8 =>
bnd (!x8) fun x9 =>
cond x9 (some (true : Bool)) (bnd (decide (a3 < 1)) fun x10 =>
some (x10 : Bool))).bind <| fun y0_1 =>
cond y0_1 (some ((x6 : GPool), (1 : Int))) ((d_pavg_Free n x6).bind fun x11 =>
bnd (decide (a3 > x11)) fun x12 =>
cond x12 (some ((x6 : GPool), (5 : Int))) (bnd (decide (a2 = 0)) fun x13 =>
cond x13 (bnd (w64 (x6.Pend.a0 + a3)) fun x18 =>
some (((⟨x6.Layers, (⟨x18, x6.Pend.a1, x6.Pend.a2⟩ : A3_Int)⟩ : GPool) : GPool), (0 : Int))) (bnd (decide (a2 = 1)) fun x14 =>
cond x14 (bnd (w64 (x6.Pend.a1 + a3)) fun x17 =>
some (((⟨x6.Layers, (⟨x6.Pend.a0, x17, x6.Pend.a2⟩ : A3_Int)⟩ : GPool) : GPool), (0 : Int))) (asrt (a2 = 2) <|
bnd (w64 (x6.Pend.a2 + a3)) fun x16 =>
some (((⟨x6.Layers, (⟨x6.Pend.a0, x6.Pend.a1, x16⟩ : A3_Int)⟩ : GPool) : GPool), (0 : Int))))))
theorem d_pavg_Wait_c {n : Nat} {a1 : GPool} {a2 : Int} {a3 : Int} {r : GPool × Int} (h0 : d_pavg_Wait n a1 a2 a3 = some r) : PP Tryz.prog 157 [.agg (GPool.av a1), int a2, int a3] (fun y => y = .tup [.agg (GPool.av r.1), int r.2]) := by
  unfold d_pavg_Wait at h0
  refine pp_of_pc (R0 := fun y H => Cv (frzH H) y (.tup [.agg (GPool.av r.1), int r.2])) ?_ (fun y H hc => ⟨_, rfl, .tup (pvl2 ((fun (a : GPool) => PV.agg (GPool.pvc a)) (r.1)) (pvI (r.2))), hc⟩)
  refine pcw (c := _) Tryz.func157 rfl rfl ?_; intro Q hret hnorm
  refine tc tbk 2 (.mk ?_)
  refine rse rfl rfl rfl (yl_box 1 .any rfl rfl rfl) ?_; rintro _ _ ⟨v4, -, rfl, rfl⟩
  refine rse rfl rfl rfl (yl_alloc 2 .any rfl z69 rfl) ?_; rintro _ _ ⟨v5, -, rfl, rfl⟩
  refine tr tbk 7 (.mk ?_)
  obtain ⟨x6, e6, h0⟩ := bind_e h0
  refine rst rfl rfl rfl (yv_callP rfl rfl (.cons rfl (.cons rfl .nil)) cal142 (CvL.refl _) (d_pavg_own_c e6)) ?_
  refine sS ⟨69, 4, true, true, v4, [[lst 3 GLayer.av x6.Layers, int x6.Pend.a0, int x6.Pend.a1, int x6.Pend.a2]]⟩ sh69 ?_
  refine tr tbk 4 (.mk ?_)
  refine jn h0 [1, 2, 3, 6, 7] [1, 2] (fun (a : Bool) (k : Unit) => [(12, boo a)]) (fun a k => []) ⟨fun j7 h1 => ?_, ?_⟩
  refine tc tbk 2 (.mk ?_)
  obtain ⟨x8, e8, h1⟩ := bind_e h1
  refine rst rfl rfl rfl (yv_callP rfl rfl (.cons rfl .nil) cal143 (CvL.refl _) (d_pavg_is_c e8)) ?_
  refine nb tbk h1 fun x9 h1 => ?_
  refine tr tbk 1 (.mk ?_)
  cases x9
  replace h1 := cf h1
  refine tr tbk 1 (.mk ?_)
  refine nb tbk h1 fun x10 h1 => ?_
  refine tr tbk 3 (.mk ?_)
  exact lf h1 () leA
  replace h1 := ct h1
  refine tr tbk 5 (.mk ?_)
  exact lf h1 () leA
  rintro y0_1 _ h0
  cases y0_1
  replace h0 := cf h0
  refine tc tbk 5 (.mk ?_)
  obtain ⟨x11, e11, h0⟩ := bind_e h0
  refine rst rfl rfl rfl (yv_callP rfl rfl (.cons rfl .nil) cal163 (CvL.refl _) (d_pavg_Free_c e11)) ?_
  refine nb tbk h0 fun x12 h0 => ?_
  refine tr tbk 2 (.mk ?_)
  cases x12
  replace h0 := cf h0
  refine tc tbk 7 (.mk ?_)
  obtain ⟨x13, e13, h0⟩ := bnd_e h0
  cases x13
  replace h0 := cf h0
  obtain ⟨x14, e14, h0⟩ := bnd_e h0
  cases x14
  replace h0 := cf h0
  obtain ⟨p15, h0⟩ := asrt_e h0
  refine rsas 27 (int 2) rfl (congrArg int p15) ?_
  refine rst rfl rfl rfl (yv_to (y := .pt 1 v4 0 3) (yv_indexAddrA rfl Tryz.underlying67 sh3 rfl rfl rfl rfl rfl (by decide)) rfl) ?_
  refine tr tbk 2 (.mk ?_)
  refine ni tbk h0 fun x16 h0 => ?_
  refine tr tbk 1 (.mk ?_)
  refine rst rfl rfl rfl (yv_to (y := .pt 1 v4 0 3) (yv_indexAddrA rfl Tryz.underlying67 sh3 rfl rfl rfl rfl rfl (by decide)) rfl) ?_
  refine sS ⟨69, 4, true, true, v4, [[lst 3 GLayer.av x6.Layers, int x6.Pend.a0, int x6.Pend.a1, int x16]]⟩ sh3 ?_
  refine tr tbk 4 (.mk ?_)
  refine sS ⟨69, 4, true, true, v5, [[lst 3 GLayer.av x6.Layers, int x6.Pend.a0, int x6.Pend.a1, int x16]]⟩ sh69 ?_
  refine tr tbk 2 (.mk ?_)
  obtain rfl := nxt_e h0
  refine w_ret (hret _ _ _ (.cell rfl (.pt rfl rfl rfl) sh69 rfl (.tmp rfl .nil)) (fun _ _ h => h) ?_)
  exact .refl _
  replace h0 := ct h0
  refine rsas 27 (int 1) rfl (congrArg int (of_decide_eq_true e14)) ?_
  refine rst rfl rfl rfl (yv_to (y := .pt 1 v4 0 2) (yv_indexAddrA rfl Tryz.underlying67 sh3 rfl rfl rfl rfl rfl (by decide)) rfl) ?_
  refine tr tbk 2 (.mk ?_)
  refine ni tbk h0 fun x17 h0 => ?_
  refine tr tbk 1 (.mk ?_)
  refine rst rfl rfl rfl (yv_to (y := .pt 1 v4 0 2) (yv_indexAddrA rfl Tryz.underlying67 sh3 rfl rfl rfl rfl rfl (by decide)) rfl) ?_
  refine sS ⟨69, 4, true, true, v4, [[lst 3 GLayer.av x6.Layers, int x6.Pend.a0, int x17, int x6.Pend.a2]]⟩ sh3 ?_
  refine tr tbk 4 (.mk ?_)
  refine sS ⟨69, 4, true, true, v5, [[lst 3 GLayer.av x6.Layers, int x6.Pend.a0, int x17, int x6.Pend.a2]]⟩ sh69 ?_
  refine tr tbk 2 (.mk ?_)
  obtain rfl := nxt_e h0
  refine w_ret (hret _ _ _ (.cell rfl (.pt rfl rfl rfl) sh69 rfl (.tmp rfl .nil)) (fun _ _ h => h) ?_)
  exact .refl _
  replace h0 := ct h0
  refine rsas 27 (int 0) rfl (congrArg int (of_decide_eq_true e13)) ?_
  refine rst rfl rfl rfl (yv_to (y := .pt 1 v4 0 1) (yv_indexAddrA rfl Tryz.underlying67 sh3 rfl rfl rfl rfl rfl (by decide)) rfl) ?_
  refine tr tbk 2 (.mk ?_)
  refine ni tbk h0 fun x18 h0 => ?_
  refine tr tbk 1 (.mk ?_)
  refine rst rfl rfl rfl (yv_to (y := .pt 1 v4 0 1) (yv_indexAddrA rfl Tryz.underlying67 sh3 rfl rfl rfl rfl rfl (by decide)) rfl) ?_
  refine sS ⟨69, 4, true, true, v4, [[lst 3 GLayer.av x6.Layers, int x18, int x6.Pend.a1, int x6.Pend.a2]]⟩ sh3 ?_
  refine tr tbk 4 (.mk ?_)
  refine sS ⟨69, 4, true, true, v5, [[lst 3 GLayer.av x6.Layers, int x18, int x6.Pend.a1, int x6.Pend.a2]]⟩ sh69 ?_
  refine tr tbk 2 (.mk ?_)
  obtain rfl := nxt_e h0
  refine w_ret (hret _ _ _ (.cell rfl (.pt rfl rfl rfl) sh69 rfl (.tmp rfl .nil)) (fun _ _ h => h) ?_)
  exact .refl _
  replace h0 := ct h0
  refine tc tbk 4 (.mk ?_)
  refine sS ⟨69, 4, true, true, v5, [[lst 3 GLayer.av x6.Layers, int x6.Pend.a0, int x6.Pend.a1, int x6.Pend.a2]]⟩ sh69 ?_
  refine tr tbk 2 (.mk ?_)
  obtain rfl := nxt_e h0
  refine w_ret (hret _ _ _ (.cell rfl (.pt rfl rfl rfl) sh69 rfl (.tmp rfl .nil)) (fun _ _ h => h) ?_)
  exact .refl _
  replace h0 := ct h0
  refine tc tbk 4 (.mk ?_)
  refine sS ⟨69, 4, true, true, v5, [[lst 3 GLayer.av x6.Layers, int x6.Pend.a0, int x6.Pend.a1, int x6.Pend.a2]]⟩ sh69 ?_
  refine tr tbk 2 (.mk ?_)
  obtain rfl := nxt_e h0
  refine w_ret (hret _ _ _ (.cell rfl (.pt rfl rfl rfl) sh69 rfl (.tmp rfl .nil)) (fun _ _ h => h) ?_)
  exact .refl _
def d_pool_Out (n : Nat) (a1 : Int) (a2 : Int) (a3 : GPool) (a4 : Int) (a5 : Int) : Option (GPool × GLayer × Bool × Int) :=
(show Option ((Unit) ⊕ (Unit) ⊕ (Unit) ⊕ (Unit) ⊕ (Unit)) from
bnd (decide (a1 = 1)) fun x10 =>
cond x10 (some (.inr (.inr (.inr (.inr ()))))) (bnd (decide (a1 = 2)) fun x11 =>
cond x11 (some (.inr (.inr (.inr (.inl ()))))) (bnd (decide (a1 = 3)) fun x12 =>
cond x12 (some (.inr (.inr (.inl ())))) (bnd (decide (a1 = 4)) fun x13 =>
cond x13 (some (.inr (.inl ()))) (some (.inl ())))))).bind <| selr (fun _ =>
(d_pool_own a3).bind fun x14 =>
some ((x14 : GPool), ((⟨0, 0, 0⟩ : GLayer) : GLayer), (false : Bool), (12 : Int))) <| selr (fun _ =>
(show Option (Bool) from
bnd (decide (a4 < 0)) fun x16 =>
cond x16 (some (true : Bool)) (bnd (decide (a4 > 3)) fun x17 =>
some (x17 : Bool))).bind <| fun y5_1 =>
cond y5_1 ((d_pool_own a3).bind fun x32 =>
some ((x32 : GPool), ((⟨0, 0, 0⟩ : GLayer) : GLayer), (false : Bool), (1 : Int))) ((show Option ((Unit)) from
some ()).bind <| fun _ =>
(show Option ((GPool × GLayer × Int)) from
(d_stdcost_Out n a3.Layers a5 a2).bind fun x27 =>
(d_pool_with a3 x27.1).bind fun x29 =>
some ((x29 : GPool), (x27.2.1 : GLayer), (x27.2.2 : Int))).bind <| p2 fun (y7_1 : GPool) (q0 : GLayer × Int) => (p2 fun (y7_2 : GLayer) (y7_3 : Int) =>
bnd (decide (y7_3 ≠ 0)) fun x30 =>
cond x30 ((d_pool_own a3).bind fun x31 =>
some ((x31 : GPool), ((⟨0, 0, 0⟩ : GLayer) : GLayer), (false : Bool), (y7_3 : Int))) (some ((y7_1 : GPool), (y7_2 : GLayer), (false : Bool), (0 : Int)))) q0)) <| selr (fun _ =>
(show Option (Bool) from
bnd (decide (a4 < 0)) fun x34 =>
cond x34 (some (true : Bool)) (bnd (decide (a4 > 3)) fun x35 =>
some (x35 : Bool))).bind <| fun y5_1 =>
cond y5_1 ((d_pool_own a3).bind fun x51 =>
some ((x51 : GPool), ((⟨0, 0, 0⟩ : GLayer) : GLayer), (false : Bool), (1 : Int))) ((show Option ((Unit)) from
some ()).bind <| fun _ =>
bnd (decide (a4 ≠ 3)) fun x40 =>
(show Option (Int × Bool × GLayer × GPool) from
cond x40 ((d_pavg_Wait n a3 a4 a5).bind fun x48 =>
some ((x48.2 : Int), (true : Bool), ((⟨0, 0, 0⟩ : GLayer) : GLayer), (x48.1 : GPool))) ((show Option ((GPool × GLayer × Int)) from
(d_pavg_Out n a3 a5).bind fun x47 =>
some ((x47.1 : GPool), (x47.2.1 : GLayer), (x47.2.2 : Int))).bind <| p2 fun (y10_1 : GPool) (q0 : GLayer × Int) => (p2 fun (y10_2 : GLayer) (y10_3 : Int) =>
some ((y10_3 : Int), (false : Bool), (y10_2 : GLayer), (y10_1 : GPool))) q0)).bind <| p2 fun (y9_1 : Int) (q0 : Bool × GLayer × GPool) => (p2 fun (y9_2 : Bool) (q1 : GLayer × GPool) => (p2 fun (y9_3 : GLayer) (y9_4 : GPool) =>
bnd (decide (y9_1 ≠ 0)) fun x49 =>
cond x49 ((d_pool_own a3).bind fun x50 =>
some ((x50 : GPool), ((⟨0, 0, 0⟩ : GLayer) : GLayer), (false : Bool), (y9_1 : Int))) (some ((y9_4 : GPool), (y9_3 : GLayer), (y9_2 : Bool), (0 : Int)))) q1) q0)) <| selr (fun _ =>
(show Option (Bool) from
bnd (decide (a4 < 0)) fun x53 =>
cond x53 (some (true : Bool)) (bnd (decide (a4 > 3)) fun x54 =>
some (x54 : Bool))).bind <| fun y5_1 =>
cond y5_1 ((d_pool_own a3).bind fun x69 =>
some ((x69 : GPool), ((⟨0, 0, 0⟩ : GLayer) : GLayer), (false : Bool), (1 : Int))) ((show Option ((Unit)) from
some ()).bind <| fun _ =>
(show Option ((GPool × GLayer × Int)) from
(d_mavg_Out n a3.Layers a5).bind fun x64 =>
(d_pool_with a3 x64.1).bind fun x66 =>
some ((x66 : GPool), (x64.2.1 : GLayer), (x64.2.2 : Int))).bind <| p2 fun (y11_1 : GPool) (q0 : GLayer × Int) => (p2 fun (y11_2 : GLayer) (y11_3 : Int) =>
bnd (decide (y11_3 ≠ 0)) fun x67 =>
cond x67 ((d_pool_own a3).bind fun x68 =>
some ((x68 : GPool), ((⟨0, 0, 0⟩ : GLayer) : GLayer), (false : Bool), (y11_3 : Int))) (some ((y11_1 : GPool), (y11_2 : GLayer), (false : Bool), (0 : Int)))) q0)) <| fun _ =>
(show Option (Bool) from
bnd (decide (a4 < 0)) fun x71 =>
cond x71 (some (true : Bool)) (bnd (decide (a4 > 3)) fun x72 =>
some (x72 : Bool))).bind <| fun y5_1 =>
cond y5_1 ((d_pool_own a3).bind fun x87 =>
some ((x87 : GPool), ((⟨0, 0, 0⟩ : GLayer) : GLayer), (false : Bool), (1 : Int))) ((show Option ((Unit)) from
some ()).bind <| fun _ =>
(show Option ((GPool × GLayer × Int)) from
(d_fifo_Out n a3.Layers a5).bind fun x82 =>
(d_pool_with a3 x82.1).bind fun x84 =>
some ((x84 : GPool), (x82.2.1 : GLayer), (x82.2.2 : Int))).bind <| p2 fun (y12_1 : GPool) (q0 : GLayer × Int) => (p2 fun (y12_2 : GLayer) (y12_3 : Int) =>
bnd (decide (y12_3 ≠ 0)) fun x85 =>
cond x85 ((d_pool_own a3).bind fun x86 =>
some ((x86 : GPool), ((⟨0, 0, 0⟩ : GLayer) : GLayer), (false : Bool), (y12_3 : Int))) (some ((y12_1 : GPool), (y12_2 : GLayer), (false : Bool), (0 : Int)))) q0)
theorem d_pool_Out_c {n : Nat} {a1 : Int} {a2 : Int} {a3 : GPool} {a4 : Int} {a5 : Int} {r : GPool × GLayer × Bool × Int} (h0 : d_pool_Out n a1 a2 a3 a4 a5 = some r) : PP Tryz.prog 135 [int a1, int a2, .agg (GPool.av a3), int a4, int a5] (fun y => y = .tup [.agg (GPool.av r.1), .agg (GLayer.av r.2.1), boo r.2.2.1, int r.2.2.2]) := by
  unfold d_pool_Out at h0
  refine pp_of_pc (R0 := fun y H => Cv (frzH H) y (.tup [.agg (GPool.av r.1), .agg (GLayer.av r.2.1), boo r.2.2.1, int r.2.2.2])) ?_ (fun y H hc => ⟨_, rfl, .tup (pvl4 ((fun (a : GPool) => PV.agg (GPool.pvc a)) (r.1)) ((fun (a : GLayer) => PV.agg (GLayer.pvc a)) (r.2.1)) (pvB (r.2.2.1)) (pvI (r.2.2.2))), hc⟩)
  refine pcw (c := _) Tryz.func135 rfl rfl ?_; intro Q hret hnorm
  refine tc tbk 2 (.mk ?_)
  refine rse rfl rfl rfl (yl_box 1 .any rfl rfl rfl) ?_; rintro _ _ ⟨v6, -, rfl, rfl⟩
  refine rse rfl rfl rfl (yl_alloc 2 .any rfl z69 rfl) ?_; rintro _ _ ⟨v7, -, rfl, rfl⟩
  refine rse rfl rfl rfl (yl_alloc 3 .any rfl z46 rfl) ?_; rintro _ _ ⟨v8, -, rfl, rfl⟩
  refine tr tbk 7 (.mk ?_)
  obtain ⟨j9, h1, h0⟩ := bind_e h0
  refine rse (Out := fun y H' => (∃ (a : Unit) (k : Unit), (.inl a) = j9 ∧ y = .sc .nilIface ∧ H' = hk [(1, ⟨69, 4, true, true, v6, [[lst 3 GLayer.av a3.Layers, int a3.Pend.a0, int a3.Pend.a1, int a3.Pend.a2]]⟩), (2, ⟨69, 4, true, true, v7, [[.sc (.slice none 0 0), int 0, int 0, int 0]]⟩), (3, ⟨46, 3, true, true, v8, [[int 0, int 0, int 0]]⟩)]) ∨ (∃ (a : Unit) (k : Unit), (.inr (.inl a)) = j9 ∧ y = .ifc 186 (.agg [int a2]) ∧ H' = hk [(1, ⟨69, 4, true, true, v6, [[lst 3 GLayer.av a3.Layers, int a3.Pend.a0, int a3.Pend.a1, int a3.Pend.a2]]⟩), (2, ⟨69, 4, true, true, v7, [[.sc (.slice none 0 0), int 0, int 0, int 0]]⟩), (3, ⟨46, 3, true, true, v8, [[int 0, int 0, int 0]]⟩)]) ∨ (∃ (a : Unit) (k : Unit), (.inr (.inr (.inl a))) = j9 ∧ y = .ifc 184 (.agg []) ∧ H' = hk [(1, ⟨69, 4, true, true, v6, [[lst 3 GLayer.av a3.Layers, int a3.Pend.a0, int a3.Pend.a1, int a3.Pend.a2]]⟩), (2, ⟨69, 4, true, true, v7, [[.sc (.slice none 0 0), int 0, int 0, int 0]]⟩), (3, ⟨46, 3, true, true, v8, [[int 0, int 0, int 0]]⟩)]) ∨ (∃ (a : Unit) (k : Unit), (.inr (.inr (.inr (.inl a)))) = j9 ∧ y = .ifc 183 (.agg []) ∧ H' = hk [(1, ⟨69, 4, true, true, v6, [[lst 3 GLayer.av a3.Layers, int a3.Pend.a0, int a3.Pend.a1, int a3.Pend.a2]]⟩), (2, ⟨69, 4, true, true, v7, [[.sc (.slice none 0 0), int 0, int 0, int 0]]⟩), (3, ⟨46, 3, true, true, v8, [[int 0, int 0, int 0]]⟩)]) ∨ (∃ (a : Unit) (k : Unit), (.inr (.inr (.inr (.inr a)))) = j9 ∧ y = .ifc 182 (.agg []) ∧ H' = hk [(1, ⟨69, 4, true, true, v6, [[lst 3 GLayer.av a3.Layers, int a3.Pend.a0, int a3.Pend.a1, int a3.Pend.a2]]⟩), (2, ⟨69, 4, true, true, v7, [[.sc (.slice none 0 0), int 0, int 0, int 0]]⟩), (3, ⟨46, 3, true, true, v8, [[int 0, int 0, int 0]]⟩)])) rfl rfl rfl (yl_call rfl rfl (.cons rfl (.cons rfl .nil)) cal113 ?_) ?_
  refine pcw (c := _) Tryz.func113 rfl rfl ?_; intro Q hret hnorm
  refine tc tbk 12 (.mk ?_)
  refine nb tbk h1 fun x10 h1 => ?_
  refine tr tbk 2 (.mk ?_)
  cases x10
  replace h1 := cf h1
  refine tc tbk 3 (.mk ?_)
  refine nb tbk h1 fun x11 h1 => ?_
  refine tr tbk 2 (.mk ?_)
  cases x11
  replace h1 := cf h1
  refine tc tbk 3 (.mk ?_)
  refine nb tbk h1 fun x12 h1 => ?_
  refine tr tbk 2 (.mk ?_)
  cases x12
  replace h1 := cf h1
  refine tc tbk 3 (.mk ?_)
  refine nb tbk h1 fun x13 h1 => ?_
  refine tr tbk 2 (.mk ?_)
  cases x13
  replace h1 := cf h1
  refine tc tbk 7 (.mk ?_)
  obtain rfl := nxt_e h1
  refine w_ret (hret _ _ (hk [(1, ⟨69, 4, true, true, v6, [[lst 3 GLayer.av a3.Layers, int a3.Pend.a0, int a3.Pend.a1, int a3.Pend.a2]]⟩), (2, ⟨69, 4, true, true, v7, [[.sc (.slice none 0 0), int 0, int 0, int 0]]⟩), (3, ⟨46, 3, true, true, v8, [[int 0, int 0, int 0]]⟩)]) (.tmp rfl .nil) (HK.le ⟨rfl, rfl, rfl, trivial⟩) ?_)
  exact (.inl ⟨(), (), rfl, rfl, rfl⟩)
  replace h1 := ct h1
  refine tc tbk 5 (.mk ?_)
  refine rst rfl rfl rfl (yv_makeIface rfl Tryz.underlying186 (by intro _ h; cases h) rfl) ?_
  refine tr tbk 2 (.mk ?_)
  obtain rfl := nxt_e h1
  refine w_ret (hret _ _ (hk [(1, ⟨69, 4, true, true, v6, [[lst 3 GLayer.av a3.Layers, int a3.Pend.a0, int a3.Pend.a1, int a3.Pend.a2]]⟩), (2, ⟨69, 4, true, true, v7, [[.sc (.slice none 0 0), int 0, int 0, int 0]]⟩), (3, ⟨46, 3, true, true, v8, [[int 0, int 0, int 0]]⟩)]) (.tmp rfl .nil) (HK.le ⟨rfl, rfl, rfl, trivial⟩) ?_)
  exact (.inr (.inl ⟨(), (), rfl, rfl, rfl⟩))
  replace h1 := ct h1
  refine tc tbk 4 (.mk ?_)
  refine rst rfl rfl rfl (yv_makeIface rfl Tryz.underlying184 (by intro _ h; cases h) rfl) ?_
  refine tr tbk 2 (.mk ?_)
  obtain rfl := nxt_e h1
  refine w_ret (hret _ _ (hk [(1, ⟨69, 4, true, true, v6, [[lst 3 GLayer.av a3.Layers, int a3.Pend.a0, int a3.Pend.a1, int a3.Pend.a2]]⟩), (2, ⟨69, 4, true, true, v7, [[.sc (.slice none 0 0), int 0, int 0, int 0]]⟩), (3, ⟨46, 3, true, true, v8, [[int 0, int 0, int 0]]⟩)]) (.tmp rfl .nil) (HK.le ⟨rfl, rfl, rfl, trivial⟩) ?_)
  exact (.inr (.inr (.inl ⟨(), (), rfl, rfl, rfl⟩)))
  replace h1 := ct h1
  refine tc tbk 4 (.mk ?_)
  refine rst rfl rfl rfl (yv_makeIface rfl Tryz.underlying183 (by intro _ h; cases h) rfl) ?_
  refine tr tbk 2 (.mk ?_)
  obtain rfl := nxt_e h1
  refine w_ret (hret _ _ (hk [(1, ⟨69, 4, true, true, v6, [[lst 3 GLayer.av a3.Layers, int a3.Pend.a0, int a3.Pend.a1, int a3.Pend.a2]]⟩), (2, ⟨69, 4, true, true, v7, [[.sc (.slice none 0 0), int 0, int 0, int 0]]⟩), (3, ⟨46, 3, true, true, v8, [[int 0, int 0, int 0]]⟩)]) (.tmp rfl .nil) (HK.le ⟨rfl, rfl, rfl, trivial⟩) ?_)
  exact (.inr (.inr (.inr (.inl ⟨(), (), rfl, rfl, rfl⟩))))
  replace h1 := ct h1
  refine tc tbk 4 (.mk ?_)
  refine rst rfl rfl rfl (yv_makeIface rfl Tryz.underlying182 (by intro _ h; cases h) rfl) ?_
  refine tr tbk 2 (.mk ?_)
  obtain rfl := nxt_e h1
  refine w_ret (hret _ _ (hk [(1, ⟨69, 4, true, true, v6, [[lst 3 GLayer.av a3.Layers, int a3.Pend.a0, int a3.Pend.a1, int a3.Pend.a2]]⟩), (2, ⟨69, 4, true, true, v7, [[.sc (.slice none 0 0), int 0, int 0, int 0]]⟩), (3, ⟨46, 3, true, true, v8, [[int 0, int 0, int 0]]⟩)]) (.tmp rfl .nil) (HK.le ⟨rfl, rfl, rfl, trivial⟩) ?_)
  exact (.inr (.inr (.inr (.inr ⟨(), (), rfl, rfl, rfl⟩))))
  rintro y _ (⟨_, _, rfl, hc, rfl⟩ | ⟨_, _, rfl, hc, rfl⟩ | ⟨_, _, rfl, hc, rfl⟩ | ⟨_, _, rfl, hc, rfl⟩ | ⟨_, _, rfl, hc, rfl⟩)
  replace h0 := selr_l h0
  subst hc
  refine tr tbk 6 (.mk ?_)
  refine rst rfl rfl rfl (yv_ifeqN rfl Tryz.underlying149 rfl rfl) ?_
  refine tr tbk 5 (.mk ?_)
  obtain ⟨x14, e14, h0⟩ := bind_e h0
  refine rst rfl rfl rfl (yv_callP rfl rfl (.cons rfl .nil) cal114 (CvL.refl _) (d_pool_own_c e14)) ?_
  refine tr tbk 1 (.mk ?_)
  refine sS ⟨69, 4, true, true, v7, [[lst 3 GLayer.av x14.Layers, int x14.Pend.a0, int x14.Pend.a1, int x14.Pend.a2]]⟩ sh69 ?_
  refine sS ⟨46, 3, true, true, v8, [[int 0, int 0, int 0]]⟩ sh46 ?_
  refine tr tbk 3 (.mk ?_)
  obtain rfl := nxt_e h0
  refine w_ret (hret _ _ _ (.cell rfl (.pt rfl rfl rfl) sh69 rfl (.cell rfl (.pt rfl rfl rfl) sh46 rfl (.tmp rfl (.tmp rfl .nil)))) (fun _ _ h => h) ?_)
  exact .refl _
  replace h0 := selr_r h0
  replace h0 := selr_l h0
  subst hc
  refine tr tbk 6 (.mk ?_)
  refine rst rfl rfl rfl (yv_ifeq rfl Tryz.underlying149 rfl rfl) ?_
  refine tr tbk 5 (.mk ?_)
  refine jn h0 [3, 4, 7, 10, 11, 12, 13, 14] [1, 2, 3] (fun (a : Bool) (k : Unit) => [(32, boo a)]) (fun a k => []) ⟨fun j15 h1 => ?_, ?_⟩
  refine tc tbk 2 (.mk ?_)
  refine nb tbk h1 fun x16 h1 => ?_
  refine tr tbk 1 (.mk ?_)
  cases x16
  replace h1 := cf h1
  refine tr tbk 1 (.mk ?_)
  refine nb tbk h1 fun x17 h1 => ?_
  refine tr tbk 2 (.mk ?_)
  exact lf h1 () leA
  replace h1 := ct h1
  refine tr tbk 4 (.mk ?_)
  exact lf h1 () leA
  rintro y5_1 _ h0
  cases y5_1
  replace h0 := cf h0
  refine tc tbk 4 (.mk ?_)
  refine rse rfl rfl rfl (yl_alloc 4 .any rfl z46 rfl) ?_; rintro _ _ ⟨v18, -, rfl, rfl⟩
  refine tr tbk 3 (.mk ?_)
  refine rse rfl rfl rfl (yl_alloc 5 .any rfl z69 rfl) ?_; rintro _ _ ⟨v19, -, rfl, rfl⟩
  refine tr tbk 8 (.mk ?_)
  obtain ⟨j20, h1, h0⟩ := bind_e h0
  refine rse (Out := fun y H' => (∃ (a : Unit) (k : Unit), a = j20 ∧ y = boo false ∧ H' = hk [(1, ⟨69, 4, true, true, v6, [[lst 3 GLayer.av a3.Layers, int a3.Pend.a0, int a3.Pend.a1, int a3.Pend.a2]]⟩), (2, ⟨69, 4, true, true, v7, [[.sc (.slice none 0 0), int 0, int 0, int 0]]⟩), (3, ⟨46, 3, true, true, v8, [[int 0, int 0, int 0]]⟩), (4, ⟨46, 3, true, true, v18, [[int 0, int 0, int 0]]⟩), (5, ⟨69, 4, true, true, v19, [[.sc (.slice none 0 0), int 0, int 0, int 0]]⟩)])) rfl rfl rfl (yl_call rfl rfl (.cons rfl .nil) cal156 ?_) ?_
  refine pcw (c := _) Tryz.func156 rfl rfl ?_; intro Q hret hnorm
  refine tc tbk 7 (.mk ?_)
  refine rst rfl rfl rfl (yv_tassF rfl Tryz.underlying184 rfl rfl rfl zag184) ?_
  refine tr tbk 3 (.mk ?_)
  refine rse rfl rfl rfl (yl_alloc 6 .any rfl z184 rfl) ?_; rintro _ _ ⟨v21, -, rfl, rfl⟩
  refine sS ⟨184, 0, true, true, v21, [[]]⟩ sh184 ?_
  refine tr tbk 7 (.mk ?_)
  obtain rfl := nxt_e h1
  refine w_ret (hret _ _ (hk [(1, ⟨69, 4, true, true, v6, [[lst 3 GLayer.av a3.Layers, int a3.Pend.a0, int a3.Pend.a1, int a3.Pend.a2]]⟩), (2, ⟨69, 4, true, true, v7, [[.sc (.slice none 0 0), int 0, int 0, int 0]]⟩), (3, ⟨46, 3, true, true, v8, [[int 0, int 0, int 0]]⟩), (4, ⟨46, 3, true, true, v18, [[int 0, int 0, int 0]]⟩), (5, ⟨69, 4, true, true, v19, [[.sc (.slice none 0 0), int 0, int 0, int 0]]⟩)]) (.tmp rfl .nil) (HK.le ⟨rfl, rfl, rfl, rfl, rfl, trivial⟩) ?_)
  exact ⟨(), (), rfl, rfl, rfl⟩
  rintro y _ ⟨_, _, rfl, hc, rfl⟩
  subst hc
  refine tr tbk 16 (.mk ?_)
  obtain ⟨j22, h1, h0⟩ := bind_e h0
  refine rse (Out := fun y H' => (∃ (a : GPool × GLayer × Int) (k : Unit), a = j22 ∧ y = .tup [.agg [lst 3 GLayer.av a.1.Layers, int a.1.Pend.a0, int a.1.Pend.a1, int a.1.Pend.a2], .agg [int a.2.1.Qty, int a.2.1.Value, int a.2.1.Profit], int a.2.2] ∧ H' = hk [(1, ⟨69, 4, true, true, v6, [[lst 3 GLayer.av a3.Layers, int a3.Pend.a0, int a3.Pend.a1, int a3.Pend.a2]]⟩), (2, ⟨69, 4, true, true, v7, [[.sc (.slice none 0 0), int 0, int 0, int 0]]⟩), (3, ⟨46, 3, true, true, v8, [[int 0, int 0, int 0]]⟩), (4, ⟨46, 3, true, true, v18, [[int 0, int 0, int 0]]⟩), (5, ⟨69, 4, true, true, v19, [[.sc (.slice none 0 0), int 0, int 0, int 0]]⟩)])) rfl rfl rfl (yl_callI rfl rfl mth186_204 (.cons rfl (.cons rfl .nil)) cal204 ?_) ?_
  refine pcw (c := _) Tryz.func204 rfl rfl ?_; intro Q hret hnorm
  refine tc tbk 2 (.mk ?_)
  refine rse rfl rfl rfl (yl_box 7 .any rfl rfl rfl) ?_; rintro _ _ ⟨v23, -, rfl, rfl⟩
  refine rse rfl rfl rfl (yl_box 8 .any rfl rfl rfl) ?_; rintro _ _ ⟨v24, -, rfl, rfl⟩
  refine rse rfl rfl rfl (yl_alloc 9 .any rfl z69 rfl) ?_; rintro _ _ ⟨v25, -, rfl, rfl⟩
  refine rse rfl rfl rfl (yl_alloc 10 .any rfl z46 rfl) ?_; rintro _ _ ⟨v26, -, rfl, rfl⟩
  refine tr tbk 9 (.mk ?_)
  obtain ⟨x27, e27, h1⟩ := bind_e h1
  refine rst rfl rfl rfl (yv_callP rfl rfl (.cons rfl (.cons rfl (.cons rfl .nil))) cal206 (CvL.refl _) (d_stdcost_Out_c e27)) ?_
  refine tr tbk 4 (.mk ?_)
  refine rse rfl rfl rfl (yl_alloc 11 .any rfl z46 rfl) ?_; rintro _ _ ⟨v28, -, rfl, rfl⟩
  refine tr tbk 1 (.mk ?_)
  refine sS ⟨46, 3, true, true, v28, [[int x27.2.1.Qty, int x27.2.1.Value, int x27.2.1.Profit]]⟩ sh46 ?_
  refine tr tbk 3 (.mk ?_)
  refine c_drawE [0, 0, 3, 0, 0, 7, 47, 127] (rl [(0, [8]), (3, [11])] []) (rl [(5, [11]), (6, [])] [8, 11]) (rl [(5, false), (6, false)] true) [0, 1, 2, 3, 4, 5, 6, 7] mixed (by kernel_rfl) ?_; intro K hK
  refine eL sh69 ?_
  refine eM ?_
  obtain ⟨x29, e29, h1⟩ := bind_e h1
  refine eP (fun H hH => yv_callP rfl rfl (.cons rfl (.cons rfl .nil)) cal145 (CvL.refl _) (d_pool_with_c e29)) ?_
  refine eL sh46 ?_
  refine eM ?_
  refine de_eff0 rfl rfl rfl rfl (Yield.weak (yl_ob (ob' := (⟨69, 4, true, true, v25, [[lst 3 GLayer.av x29.Layers, int x29.Pend.a0, int x29.Pend.a1, int x29.Pend.a2]]⟩ : AObj)) (yl_store rfl sh69 rfl rfl rfl rfl rfl rfl rfl rfl rfl) rfl) (fun _ h => h) (fun _ _ => trivial)) (by rintro _ _ ⟨rfl, rfl⟩; exact ⟨rfl, trivial⟩) ?_; rintro _ _ ⟨rfl, rfl⟩
  refine de_eff0 rfl rfl rfl rfl (Yield.weak (yl_ob (ob' := (⟨46, 3, true, true, v26, [[int x27.2.1.Qty, int x27.2.1.Value, int x27.2.1.Profit]]⟩ : AObj)) (yl_store rfl sh46 rfl rfl rfl rfl rfl rfl rfl rfl rfl) rfl) (fun _ h => h) (fun _ _ => trivial)) (by rintro _ _ ⟨rfl, rfl⟩; exact trivial) ?_; rintro _ _ ⟨rfl, rfl⟩
  refine eA ?_
  refine de_nil (hK _ ?_)
  obtain rfl := nxt_e h1
  refine w_ret (hret _ _ (hk [(1, ⟨69, 4, true, true, v6, [[lst 3 GLayer.av a3.Layers, int a3.Pend.a0, int a3.Pend.a1, int a3.Pend.a2]]⟩), (2, ⟨69, 4, true, true, v7, [[.sc (.slice none 0 0), int 0, int 0, int 0]]⟩), (3, ⟨46, 3, true, true, v8, [[int 0, int 0, int 0]]⟩), (4, ⟨46, 3, true, true, v18, [[int 0, int 0, int 0]]⟩), (5, ⟨69, 4, true, true, v19, [[.sc (.slice none 0 0), int 0, int 0, int 0]]⟩)]) (.cell rfl (.pt rfl rfl rfl) sh69 rfl (.cell rfl (.pt rfl rfl rfl) sh46 rfl (.tmp rfl .nil))) (HK.le ⟨rfl, rfl, rfl, rfl, rfl, trivial⟩) ?_)
  exact ⟨(x29, x27.2.1, x27.2.2), (), rfl, rfl, rfl⟩
  rintro y _ ⟨⟨y7_1, y7_2, y7_3⟩, _, rfl, hc, rfl⟩
  replace h0 := p2_e h0
  replace h0 := p2_e h0
  subst hc
  refine tr tbk 4 (.mk ?_)
  refine sS ⟨69, 4, true, true, v19, [[lst 3 GLayer.av y7_1.Layers, int y7_1.Pend.a0, int y7_1.Pend.a1, int y7_1.Pend.a2]]⟩ sh69 ?_
  refine sS ⟨46, 3, true, true, v18, [[int y7_2.Qty, int y7_2.Value, int y7_2.Profit]]⟩ sh46 ?_
  refine tr tbk 6 (.mk ?_)
  refine nb tbk h0 fun x30 h0 => ?_
  refine tr tbk 1 (.mk ?_)
  cases x30
  replace h0 := cf h0
  refine tc tbk 3 (.mk ?_)
  refine c_drawE [0, 0, 0, 1, 11, 31, 63] (rl [(0, [5]), (1, [4])] []) (rl [(3, [4]), (4, [])] [4, 5]) (rl [(3, false), (4, false)] true) [0, 1, 2, 3, 4, 5, 6] mixed (by kernel_rfl) ?_; intro K hK
  refine eL sh69 ?_
  refine eL sh46 ?_
  refine eM ?_
  refine de_eff0 rfl rfl rfl rfl (Yield.weak (yl_ob (ob' := (⟨69, 4, true, true, v7, [[lst 3 GLayer.av y7_1.Layers, int y7_1.Pend.a0, int y7_1.Pend.a1, int y7_1.Pend.a2]]⟩ : AObj)) (yl_store rfl sh69 rfl rfl rfl rfl rfl rfl rfl rfl rfl) rfl) (fun _ h => h) (fun _ _ => trivial)) (by rintro _ _ ⟨rfl, rfl⟩; exact ⟨rfl, trivial⟩) ?_; rintro _ _ ⟨rfl, rfl⟩
  refine de_eff0 rfl rfl rfl rfl (Yield.weak (yl_ob (ob' := (⟨46, 3, true, true, v8, [[int y7_2.Qty, int y7_2.Value, int y7_2.Profit]]⟩ : AObj)) (yl_store rfl sh46 rfl rfl rfl rfl rfl rfl rfl rfl rfl) rfl) (fun _ h => h) (fun _ _ => trivial)) (by rintro _ _ ⟨rfl, rfl⟩; exact trivial) ?_; rintro _ _ ⟨rfl, rfl⟩
  iterate 2 refine eA ?_
  refine de_nil (hK _ ?_)
  obtain rfl := nxt_e h0
  refine w_ret (hret _ _ _ (.cell rfl (.pt rfl rfl rfl) sh69 rfl (.cell rfl (.pt rfl rfl rfl) sh46 rfl (.tmp rfl (.tmp rfl .nil)))) (fun _ _ h => h) ?_)
  exact .refl _
  replace h0 := ct h0
  refine tc tbk 4 (.mk ?_)
  obtain ⟨x31, e31, h0⟩ := bind_e h0
  refine rst rfl rfl rfl (yv_callP rfl rfl (.cons rfl .nil) cal114 (CvL.refl _) (d_pool_own_c e31)) ?_
  refine tr tbk 2 (.mk ?_)
  refine sS ⟨69, 4, true, true, v7, [[lst 3 GLayer.av x31.Layers, int x31.Pend.a0, int x31.Pend.a1, int x31.Pend.a2]]⟩ sh69 ?_
  refine sS ⟨46, 3, true, true, v8, [[int 0, int 0, int 0]]⟩ sh46 ?_
  refine tr tbk 3 (.mk ?_)
  obtain rfl := nxt_e h0
  refine w_ret (hret _ _ _ (.cell rfl (.pt rfl rfl rfl) sh69 rfl (.cell rfl (.pt rfl rfl rfl) sh46 rfl (.tmp rfl (.tmp rfl .nil)))) (fun _ _ h => h) ?_)
  exact .refl _
  replace h0 := ct h0
  refine tc tbk 4 (.mk ?_)
  obtain ⟨x32, e32, h0⟩ := bind_e h0
  refine rst rfl rfl rfl (yv_callP rfl rfl (.cons rfl .nil) cal114 (CvL.refl _) (d_pool_own_c e32)) ?_
  refine tr tbk 1 (.mk ?_)
  refine sS ⟨69, 4, true, true, v7, [[lst 3 GLayer.av x32.Layers, int x32.Pend.a0, int x32.Pend.a1, int x32.Pend.a2]]⟩ sh69 ?_
  refine sS ⟨46, 3, true, true, v8, [[int 0, int 0, int 0]]⟩ sh46 ?_
  refine tr tbk 3 (.mk ?_)
  obtain rfl := nxt_e h0
  refine w_ret (hret _ _ _ (.cell rfl (.pt rfl rfl rfl) sh69 rfl (.cell rfl (.pt rfl rfl rfl) sh46 rfl (.tmp rfl (.tmp rfl .nil)))) (fun _ _ h => h) ?_)
  exact .refl _
  replace h0 := selr_r h0
  replace h0 := selr_r h0
  replace h0 := selr_l h0
  subst hc
  refine tr tbk 6 (.mk ?_)
  refine rst rfl rfl rfl (yv_ifeq rfl Tryz.underlying149 rfl rfl) ?_
  refine tr tbk 5 (.mk ?_)
  refine jn h0 [3, 4, 7, 10, 11, 12, 13, 14] [1, 2, 3] (fun (a : Bool) (k : Unit) => [(32, boo a)]) (fun a k => []) ⟨fun j33 h1 => ?_, ?_⟩
  refine tc tbk 2 (.mk ?_)
  refine nb tbk h1 fun x34 h1 => ?_
  refine tr tbk 1 (.mk ?_)
  cases x34
  replace h1 := cf h1
  refine tr tbk 1 (.mk ?_)
  refine nb tbk h1 fun x35 h1 => ?_
  refine tr tbk 2 (.mk ?_)
  exact lf h1 () leA
  replace h1 := ct h1
  refine tr tbk 4 (.mk ?_)
  exact lf h1 () leA
  rintro y5_1 _ h0
  cases y5_1
  replace h0 := cf h0
  refine tc tbk 4 (.mk ?_)
  refine rse rfl rfl rfl (yl_alloc 4 .any rfl z46 rfl) ?_; rintro _ _ ⟨v36, -, rfl, rfl⟩
  refine tr tbk 3 (.mk ?_)
  refine rse rfl rfl rfl (yl_alloc 5 .any rfl z69 rfl) ?_; rintro _ _ ⟨v37, -, rfl, rfl⟩
  refine tr tbk 8 (.mk ?_)
  obtain ⟨j38, h1, h0⟩ := bind_e h0
  refine rse (Out := fun y H' => (∃ (a : Unit) (k : Unit), a = j38 ∧ y = boo true ∧ H' = hk [(1, ⟨69, 4, true, true, v6, [[lst 3 GLayer.av a3.Layers, int a3.Pend.a0, int a3.Pend.a1, int a3.Pend.a2]]⟩), (2, ⟨69, 4, true, true, v7, [[.sc (.slice none 0 0), int 0, int 0, int 0]]⟩), (3, ⟨46, 3, true, true, v8, [[int 0, int 0, int 0]]⟩), (4, ⟨46, 3, true, true, v36, [[int 0, int 0, int 0]]⟩), (5, ⟨69, 4, true, true, v37, [[.sc (.slice none 0 0), int 0, int 0, int 0]]⟩)])) rfl rfl rfl (yl_call rfl rfl (.cons rfl .nil) cal156 ?_) ?_
  refine pcw (c := _) Tryz.func156 rfl rfl ?_; intro Q hret hnorm
  refine tc tbk 7 (.mk ?_)
  refine rst rfl rfl rfl (yv_tassT rfl Tryz.underlying184 rfl rfl) ?_
  refine tr tbk 3 (.mk ?_)
  refine rse rfl rfl rfl (yl_alloc 6 .any rfl z184 rfl) ?_; rintro _ _ ⟨v39, -, rfl, rfl⟩
  refine sS ⟨184, 0, true, true, v39, [[]]⟩ sh184 ?_
  refine tr tbk 7 (.mk ?_)
  obtain rfl := nxt_e h1
  refine w_ret (hret _ _ (hk [(1, ⟨69, 4, true, true, v6, [[lst 3 GLayer.av a3.Layers, int a3.Pend.a0, int a3.Pend.a1, int a3.Pend.a2]]⟩), (2, ⟨69, 4, true, true, v7, [[.sc (.slice none 0 0), int 0, int 0, int 0]]⟩), (3, ⟨46, 3, true, true, v8, [[int 0, int 0, int 0]]⟩), (4, ⟨46, 3, true, true, v36, [[int 0, int 0, int 0]]⟩), (5, ⟨69, 4, true, true, v37, [[.sc (.slice none 0 0), int 0, int 0, int 0]]⟩)]) (.tmp rfl .nil) (HK.le ⟨rfl, rfl, rfl, rfl, rfl, trivial⟩) ?_)
  exact ⟨(), (), rfl, rfl, rfl⟩
  rintro y _ ⟨_, _, rfl, hc, rfl⟩
  subst hc
  refine tr tbk 2 (.mk ?_)
  refine nb tbk h0 fun x40 h0 => ?_
  refine tr tbk 8 (.mk ?_)
  refine jn h0 [7, 10, 11, 12, 13, 15, 16] [1, 2, 3] (fun (a : Int × Bool × GLayer × GPool) (k : Unit) => [(17, int a.1), (18, boo a.2.1)]) (fun a k => [(4, ⟨46, 3, true, true, v36, [[int a.2.2.1.Qty, int a.2.2.1.Value, int a.2.2.1.Profit]]⟩), (5, ⟨69, 4, true, true, v37, [[lst 3 GLayer.av a.2.2.2.Layers, int a.2.2.2.Pend.a0, int a.2.2.2.Pend.a1, int a.2.2.2.Pend.a2]]⟩)]) ⟨fun j41 h1 => ?_, ?_⟩
  cases x40
  replace h1 := cf h1
  refine tc tbk 5 (.mk ?_)
  obtain ⟨j42, h2, h1⟩ := bind_e h1
  refine rse (Out := fun y H' => (∃ (a : GPool × GLayer × Int) (k : Unit), a = j42 ∧ y = .tup [.agg [lst 3 GLayer.av a.1.Layers, int a.1.Pend.a0, int a.1.Pend.a1, int a.1.Pend.a2], .agg [int a.2.1.Qty, int a.2.1.Value, int a.2.1.Profit], int a.2.2] ∧ H' = hk [(1, ⟨69, 4, true, true, v6, [[lst 3 GLayer.av a3.Layers, int a3.Pend.a0, int a3.Pend.a1, int a3.Pend.a2]]⟩), (2, ⟨69, 4, true, true, v7, [[.sc (.slice none 0 0), int 0, int 0, int 0]]⟩), (3, ⟨46, 3, true, true, v8, [[int 0, int 0, int 0]]⟩), (4, ⟨46, 3, true, true, v36, [[int 0, int 0, int 0]]⟩), (5, ⟨69, 4, true, true, v37, [[.sc (.slice none 0 0), int 0, int 0, int 0]]⟩)])) rfl rfl rfl (yl_callI rfl rfl mth184_200 (.cons rfl (.cons rfl .nil)) cal200 ?_) ?_
  refine pcw (c := _) Tryz.func200 rfl rfl ?_; intro Q hret hnorm
  refine tc tbk 2 (.mk ?_)
  refine rse rfl rfl rfl (yl_box 16 .any rfl rfl rfl) ?_; rintro _ _ ⟨v43, -, rfl, rfl⟩
  refine rse rfl rfl rfl (yl_box 17 .any rfl rfl rfl) ?_; rintro _ _ ⟨v44, -, rfl, rfl⟩
  refine rse rfl rfl rfl (yl_alloc 18 .any rfl z69 rfl) ?_; rintro _ _ ⟨v45, -, rfl, rfl⟩
  refine rse rfl rfl rfl (yl_alloc 19 .any rfl z46 rfl) ?_; rintro _ _ ⟨v46, -, rfl, rfl⟩
  refine tr tbk 6 (.mk ?_)
  obtain ⟨x47, e47, h2⟩ := bind_e h2
  refine rst rfl rfl rfl (yv_callP rfl rfl (.cons rfl (.cons rfl .nil)) cal202 (CvL.refl _) (d_pavg_Out_c e47)) ?_
  refine tr tbk 3 (.mk ?_)
  refine sS ⟨69, 4, true, true, v45, [[lst 3 GLayer.av x47.1.Layers, int x47.1.Pend.a0, int x47.1.Pend.a1, int x47.1.Pend.a2]]⟩ sh69 ?_
  refine sS ⟨46, 3, true, true, v46, [[int x47.2.1.Qty, int x47.2.1.Value, int x47.2.1.Profit]]⟩ sh46 ?_
  refine tr tbk 2 (.mk ?_)
  obtain rfl := nxt_e h2
  refine w_ret (hret _ _ (hk [(1, ⟨69, 4, true, true, v6, [[lst 3 GLayer.av a3.Layers, int a3.Pend.a0, int a3.Pend.a1, int a3.Pend.a2]]⟩), (2, ⟨69, 4, true, true, v7, [[.sc (.slice none 0 0), int 0, int 0, int 0]]⟩), (3, ⟨46, 3, true, true, v8, [[int 0, int 0, int 0]]⟩), (4, ⟨46, 3, true, true, v36, [[int 0, int 0, int 0]]⟩), (5, ⟨69, 4, true, true, v37, [[.sc (.slice none 0 0), int 0, int 0, int 0]]⟩)]) (.cell rfl (.pt rfl rfl rfl) sh69 rfl (.cell rfl (.pt rfl rfl rfl) sh46 rfl (.tmp rfl .nil))) (HK.le ⟨rfl, rfl, rfl, rfl, rfl, trivial⟩) ?_)
  exact ⟨(x47.1, x47.2.1, x47.2.2), (), rfl, rfl, rfl⟩
  rintro y _ ⟨⟨y10_1, y10_2, y10_3⟩, _, rfl, hc, rfl⟩
  replace h1 := p2_e h1
  replace h1 := p2_e h1
  subst hc
  refine tr tbk 4 (.mk ?_)
  refine sS ⟨69, 4, true, true, v37, [[lst 3 GLayer.av y10_1.Layers, int y10_1.Pend.a0, int y10_1.Pend.a1, int y10_1.Pend.a2]]⟩ sh69 ?_
  refine sS ⟨46, 3, true, true, v36, [[int y10_2.Qty, int y10_2.Value, int y10_2.Profit]]⟩ sh46 ?_
  refine tr tbk 2 (.mk ?_)
  exact lf h1 () leA
  replace h1 := ct h1
  refine tc tbk 5 (.mk ?_)
  obtain ⟨x48, e48, h1⟩ := bind_e h1
  refine rst rfl rfl rfl (yv_callP rfl rfl (.cons rfl (.cons rfl (.cons rfl .nil))) cal157 (CvL.refl _) (d_pavg_Wait_c e48)) ?_
  refine tr tbk 3 (.mk ?_)
  refine sS ⟨69, 4, true, true, v37, [[lst 3 GLayer.av x48.1.Layers, int x48.1.Pend.a0, int x48.1.Pend.a1, int x48.1.Pend.a2]]⟩ sh69 ?_
  refine tr tbk 2 (.mk ?_)
  exact lf h1 () leA
  rintro ⟨y9_1, y9_2, y9_3, y9_4⟩ _ h0
  replace h0 := p2_e h0
  replace h0 := p2_e h0
  replace h0 := p2_e h0
  refine tc tbk 4 (.mk ?_)
  refine nb tbk h0 fun x49 h0 => ?_
  refine tr tbk 1 (.mk ?_)
  cases x49
  replace h0 := cf h0
  refine tc tbk 3 (.mk ?_)
  refine c_drawE [0, 0, 0, 1, 11, 31, 63] (rl [(0, [5]), (1, [4])] []) (rl [(3, [4]), (4, [])] [4, 5]) (rl [(3, false), (4, false)] true) [0, 1, 2, 3, 4, 5, 6] mixed (by kernel_rfl) ?_; intro K hK
  refine eL sh69 ?_
  refine eL sh46 ?_
  refine eM ?_
  refine de_eff0 rfl rfl rfl rfl (Yield.weak (yl_ob (ob' := (⟨69, 4, true, true, v7, [[lst 3 GLayer.av y9_4.Layers, int y9_4.Pend.a0, int y9_4.Pend.a1, int y9_4.Pend.a2]]⟩ : AObj)) (yl_store rfl sh69 rfl rfl rfl rfl rfl rfl rfl rfl rfl) rfl) (fun _ h => h) (fun _ _ => trivial)) (by rintro _ _ ⟨rfl, rfl⟩; exact ⟨rfl, trivial⟩) ?_; rintro _ _ ⟨rfl, rfl⟩
  refine de_eff0 rfl rfl rfl rfl (Yield.weak (yl_ob (ob' := (⟨46, 3, true, true, v8, [[int y9_3.Qty, int y9_3.Value, int y9_3.Profit]]⟩ : AObj)) (yl_store rfl sh46 rfl rfl rfl rfl rfl rfl rfl rfl rfl) rfl) (fun _ h => h) (fun _ _ => trivial)) (by rintro _ _ ⟨rfl, rfl⟩; exact trivial) ?_; rintro _ _ ⟨rfl, rfl⟩
  iterate 2 refine eA ?_
  refine de_nil (hK _ ?_)
  obtain rfl := nxt_e h0
  refine w_ret (hret _ _ _ (.cell rfl (.pt rfl rfl rfl) sh69 rfl (.cell rfl (.pt rfl rfl rfl) sh46 rfl (.tmp rfl (.tmp rfl .nil)))) (fun _ _ h => h) ?_)
  exact .refl _
  replace h0 := ct h0
  refine tc tbk 4 (.mk ?_)
  obtain ⟨x50, e50, h0⟩ := bind_e h0
  refine rst rfl rfl rfl (yv_callP rfl rfl (.cons rfl .nil) cal114 (CvL.refl _) (d_pool_own_c e50)) ?_
  refine tr tbk 2 (.mk ?_)
  refine sS ⟨69, 4, true, true, v7, [[lst 3 GLayer.av x50.Layers, int x50.Pend.a0, int x50.Pend.a1, int x50.Pend.a2]]⟩ sh69 ?_
  refine sS ⟨46, 3, true, true, v8, [[int 0, int 0, int 0]]⟩ sh46 ?_
  refine tr tbk 3 (.mk ?_)
  obtain rfl := nxt_e h0
  refine w_ret (hret _ _ _ (.cell rfl (.pt rfl rfl rfl) sh69 rfl (.cell rfl (.pt rfl rfl rfl) sh46 rfl (.tmp rfl (.tmp rfl .nil)))) (fun _ _ h => h) ?_)
  exact .refl _
  replace h0 := ct h0
  refine tc tbk 4 (.mk ?_)
  obtain ⟨x51, e51, h0⟩ := bind_e h0
  refine rst rfl rfl rfl (yv_callP rfl rfl (.cons rfl .nil) cal114 (CvL.refl _) (d_pool_own_c e51)) ?_
  refine tr tbk 1 (.mk ?_)
  refine sS ⟨69, 4, true, true, v7, [[lst 3 GLayer.av x51.Layers, int x51.Pend.a0, int x51.Pend.a1, int x51.Pend.a2]]⟩ sh69 ?_
  refine sS ⟨46, 3, true, true, v8, [[int 0, int 0, int 0]]⟩ sh46 ?_
  refine tr tbk 3 (.mk ?_)
  obtain rfl := nxt_e h0
  refine w_ret (hret _ _ _ (.cell rfl (.pt rfl rfl rfl) sh69 rfl (.cell rfl (.pt rfl rfl rfl) sh46 rfl (.tmp rfl (.tmp rfl .nil)))) (fun _ _ h => h) ?_)
  exact .refl _
  replace h0 := selr_r h0
  replace h0 := selr_r h0
  replace h0 := selr_r h0
  replace h0 := selr_l h0
  subst hc
  refine tr tbk 6 (.mk ?_)
  refine rst rfl rfl rfl (yv_ifeq rfl Tryz.underlying149 rfl rfl) ?_
  refine tr tbk 5 (.mk ?_)
  refine jn h0 [3, 4, 7, 10, 11, 12, 13, 14] [1, 2, 3] (fun (a : Bool) (k : Unit) => [(32, boo a)]) (fun a k => []) ⟨fun j52 h1 => ?_, ?_⟩
  refine tc tbk 2 (.mk ?_)
  refine nb tbk h1 fun x53 h1 => ?_
  refine tr tbk 1 (.mk ?_)
  cases x53
  replace h1 := cf h1
  refine tr tbk 1 (.mk ?_)
  refine nb tbk h1 fun x54 h1 => ?_
  refine tr tbk 2 (.mk ?_)
  exact lf h1 () leA
  replace h1 := ct h1
  refine tr tbk 4 (.mk ?_)
  exact lf h1 () leA
  rintro y5_1 _ h0
  cases y5_1
  replace h0 := cf h0
  refine tc tbk 4 (.mk ?_)
  refine rse rfl rfl rfl (yl_alloc 4 .any rfl z46 rfl) ?_; rintro _ _ ⟨v55, -, rfl, rfl⟩
  refine tr tbk 3 (.mk ?_)
  refine rse rfl rfl rfl (yl_alloc 5 .any rfl z69 rfl) ?_; rintro _ _ ⟨v56, -, rfl, rfl⟩
  refine tr tbk 8 (.mk ?_)
  obtain ⟨j57, h1, h0⟩ := bind_e h0
  refine rse (Out := fun y H' => (∃ (a : Unit) (k : Unit), a = j57 ∧ y = boo false ∧ H' = hk [(1, ⟨69, 4, true, true, v6, [[lst 3 GLayer.av a3.Layers, int a3.Pend.a0, int a3.Pend.a1, int a3.Pend.a2]]⟩), (2, ⟨69, 4, true, true, v7, [[.sc (.slice none 0 0), int 0, int 0, int 0]]⟩), (3, ⟨46, 3, true, true, v8, [[int 0, int 0, int 0]]⟩), (4, ⟨46, 3, true, true, v55, [[int 0, int 0, int 0]]⟩), (5, ⟨69, 4, true, true, v56, [[.sc (.slice none 0 0), int 0, int 0, int 0]]⟩)])) rfl rfl rfl (yl_call rfl rfl (.cons rfl .nil) cal156 ?_) ?_
  refine pcw (c := _) Tryz.func156 rfl rfl ?_; intro Q hret hnorm
  refine tc tbk 7 (.mk ?_)
  refine rst rfl rfl rfl (yv_tassF rfl Tryz.underlying184 rfl rfl rfl zag184) ?_
  refine tr tbk 3 (.mk ?_)
  refine rse rfl rfl rfl (yl_alloc 6 .any rfl z184 rfl) ?_; rintro _ _ ⟨v58, -, rfl, rfl⟩
  refine sS ⟨184, 0, true, true, v58, [[]]⟩ sh184 ?_
  refine tr tbk 7 (.mk ?_)
  obtain rfl := nxt_e h1
  refine w_ret (hret _ _ (hk [(1, ⟨69, 4, true, true, v6, [[lst 3 GLayer.av a3.Layers, int a3.Pend.a0, int a3.Pend.a1, int a3.Pend.a2]]⟩), (2, ⟨69, 4, true, true, v7, [[.sc (.slice none 0 0), int 0, int 0, int 0]]⟩), (3, ⟨46, 3, true, true, v8, [[int 0, int 0, int 0]]⟩), (4, ⟨46, 3, true, true, v55, [[int 0, int 0, int 0]]⟩), (5, ⟨69, 4, true, true, v56, [[.sc (.slice none 0 0), int 0, int 0, int 0]]⟩)]) (.tmp rfl .nil) (HK.le ⟨rfl, rfl, rfl, rfl, rfl, trivial⟩) ?_)
  exact ⟨(), (), rfl, rfl, rfl⟩
  rintro y _ ⟨_, _, rfl, hc, rfl⟩
  subst hc
  refine tr tbk 16 (.mk ?_)
  obtain ⟨j59, h1, h0⟩ := bind_e h0
  refine rse (Out := fun y H' => (∃ (a : GPool × GLayer × Int) (k : Unit), a = j59 ∧ y = .tup [.agg [lst 3 GLayer.av a.1.Layers, int a.1.Pend.a0, int a.1.Pend.a1, int a.1.Pend.a2], .agg [int a.2.1.Qty, int a.2.1.Value, int a.2.1.Profit], int a.2.2] ∧ H' = hk [(1, ⟨69, 4, true, true, v6, [[lst 3 GLayer.av a3.Layers, int a3.Pend.a0, int a3.Pend.a1, int a3.Pend.a2]]⟩), (2, ⟨69, 4, true, true, v7, [[.sc (.slice none 0 0), int 0, int 0, int 0]]⟩), (3, ⟨46, 3, true, true, v8, [[int 0, int 0, int 0]]⟩), (4, ⟨46, 3, true, true, v55, [[int 0, int 0, int 0]]⟩), (5, ⟨69, 4, true, true, v56, [[.sc (.slice none 0 0), int 0, int 0, int 0]]⟩)])) rfl rfl rfl (yl_callI rfl rfl mth183_195 (.cons rfl (.cons rfl .nil)) cal195 ?_) ?_
  refine pcw (c := _) Tryz.func195 rfl rfl ?_; intro Q hret hnorm
  refine tc tbk 2 (.mk ?_)
  refine rse rfl rfl rfl (yl_box 20 .any rfl rfl rfl) ?_; rintro _ _ ⟨v60, -, rfl, rfl⟩
  refine rse rfl rfl rfl (yl_box 21 .any rfl rfl rfl) ?_; rintro _ _ ⟨v61, -, rfl, rfl⟩
  refine rse rfl rfl rfl (yl_alloc 22 .any rfl z69 rfl) ?_; rintro _ _ ⟨v62, -, rfl, rfl⟩
  refine rse rfl rfl rfl (yl_alloc 23 .any rfl z46 rfl) ?_; rintro _ _ ⟨v63, -, rfl, rfl⟩
  refine tr tbk 7 (.mk ?_)
  obtain ⟨x64, e64, h1⟩ := bind_e h1
  refine rst rfl rfl rfl (yv_callP rfl rfl (.cons rfl (.cons rfl .nil)) cal197 (CvL.refl _) (d_mavg_Out_c e64)) ?_
  refine tr tbk 4 (.mk ?_)
  refine rse rfl rfl rfl (yl_alloc 24 .any rfl z46 rfl) ?_; rintro _ _ ⟨v65, -, rfl, rfl⟩
  refine tr tbk 1 (.mk ?_)
  refine sS ⟨46, 3, true, true, v65, [[int x64.2.1.Qty, int x64.2.1.Value, int x64.2.1.Profit]]⟩ sh46 ?_
  refine tr tbk 3 (.mk ?_)
  refine c_drawE [0, 0, 3, 0, 0, 7, 47, 127] (rl [(0, [21]), (3, [24])] []) (rl [(5, [24]), (6, [])] [21, 24]) (rl [(5, false), (6, false)] true) [0, 1, 2, 3, 4, 5, 6, 7] mixed (by kernel_rfl) ?_; intro K hK
  refine eL sh69 ?_
  refine eM ?_
  obtain ⟨x66, e66, h1⟩ := bind_e h1
  refine eP (fun H hH => yv_callP rfl rfl (.cons rfl (.cons rfl .nil)) cal145 (CvL.refl _) (d_pool_with_c e66)) ?_
  refine eL sh46 ?_
  refine eM ?_
  refine de_eff0 rfl rfl rfl rfl (Yield.weak (yl_ob (ob' := (⟨69, 4, true, true, v62, [[lst 3 GLayer.av x66.Layers, int x66.Pend.a0, int x66.Pend.a1, int x66.Pend.a2]]⟩ : AObj)) (yl_store rfl sh69 rfl rfl rfl rfl rfl rfl rfl rfl rfl) rfl) (fun _ h => h) (fun _ _ => trivial)) (by rintro _ _ ⟨rfl, rfl⟩; exact ⟨rfl, trivial⟩) ?_; rintro _ _ ⟨rfl, rfl⟩
  refine de_eff0 rfl rfl rfl rfl (Yield.weak (yl_ob (ob' := (⟨46, 3, true, true, v63, [[int x64.2.1.Qty, int x64.2.1.Value, int x64.2.1.Profit]]⟩ : AObj)) (yl_store rfl sh46 rfl rfl rfl rfl rfl rfl rfl rfl rfl) rfl) (fun _ h => h) (fun _ _ => trivial)) (by rintro _ _ ⟨rfl, rfl⟩; exact trivial) ?_; rintro _ _ ⟨rfl, rfl⟩
  refine eA ?_
  refine de_nil (hK _ ?_)
  obtain rfl := nxt_e h1
  refine w_ret (hret _ _ (hk [(1, ⟨69, 4, true, true, v6, [[lst 3 GLayer.av a3.Layers, int a3.Pend.a0, int a3.Pend.a1, int a3.Pend.a2]]⟩), (2, ⟨69, 4, true, true, v7, [[.sc (.slice none 0 0), int 0, int 0, int 0]]⟩), (3, ⟨46, 3, true, true, v8, [[int 0, int 0, int 0]]⟩), (4, ⟨46, 3, true, true, v55, [[int 0, int 0, int 0]]⟩), (5, ⟨69, 4, true, true, v56, [[.sc (.slice none 0 0), int 0, int 0, int 0]]⟩)]) (.cell rfl (.pt rfl rfl rfl) sh69 rfl (.cell rfl (.pt rfl rfl rfl) sh46 rfl (.tmp rfl .nil))) (HK.le ⟨rfl, rfl, rfl, rfl, rfl, trivial⟩) ?_)
  exact ⟨(x66, x64.2.1, x64.2.2), (), rfl, rfl, rfl⟩
  rintro y _ ⟨⟨y11_1, y11_2, y11_3⟩, _, rfl, hc, rfl⟩
  replace h0 := p2_e h0
  replace h0 := p2_e h0
  subst hc
  refine tr tbk 4 (.mk ?_)
  refine sS ⟨69, 4, true, true, v56, [[lst 3 GLayer.av y11_1.Layers, int y11_1.Pend.a0, int y11_1.Pend.a1, int y11_1.Pend.a2]]⟩ sh69 ?_
  refine sS ⟨46, 3, true, true, v55, [[int y11_2.Qty, int y11_2.Value, int y11_2.Profit]]⟩ sh46 ?_
  refine tr tbk 6 (.mk ?_)
  refine nb tbk h0 fun x67 h0 => ?_
  refine tr tbk 1 (.mk ?_)
  cases x67
  replace h0 := cf h0
  refine tc tbk 3 (.mk ?_)
  refine c_drawE [0, 0, 0, 1, 11, 31, 63] (rl [(0, [5]), (1, [4])] []) (rl [(3, [4]), (4, [])] [4, 5]) (rl [(3, false), (4, false)] true) [0, 1, 2, 3, 4, 5, 6] mixed (by kernel_rfl) ?_; intro K hK
  refine eL sh69 ?_
  refine eL sh46 ?_
  refine eM ?_
  refine de_eff0 rfl rfl rfl rfl (Yield.weak (yl_ob (ob' := (⟨69, 4, true, true, v7, [[lst 3 GLayer.av y11_1.Layers, int y11_1.Pend.a0, int y11_1.Pend.a1, int y11_1.Pend.a2]]⟩ : AObj)) (yl_store rfl sh69 rfl rfl rfl rfl rfl rfl rfl rfl rfl) rfl) (fun _ h => h) (fun _ _ => trivial)) (by rintro _ _ ⟨rfl, rfl⟩; exact ⟨rfl, trivial⟩) ?_; rintro _ _ ⟨rfl, rfl⟩
  refine de_eff0 rfl rfl rfl rfl (Yield.weak (yl_ob (ob' := (⟨46, 3, true, true, v8, [[int y11_2.Qty, int y11_2.Value, int y11_2.Profit]]⟩ : AObj)) (yl_store rfl sh46 rfl rfl rfl rfl rfl rfl rfl rfl rfl) rfl) (fun _ h => h) (fun _ _ => trivial)) (by rintro _ _ ⟨rfl, rfl⟩; exact trivial) ?_; rintro _ _ ⟨rfl, rfl⟩
  iterate 2 refine eA ?_
  refine de_nil (hK _ ?_)
  obtain rfl := nxt_e h0
  refine w_ret (hret _ _ _ (.cell rfl (.pt rfl rfl rfl) sh69 rfl (.cell rfl (.pt rfl rfl rfl) sh46 rfl (.tmp rfl (.tmp rfl .nil)))) (fun _ _ h => h) ?_)
  exact .refl _
  replace h0 := ct h0
  refine tc tbk 4 (.mk ?_)
  obtain ⟨x68, e68, h0⟩ := bind_e h0
  refine rst rfl rfl rfl (yv_callP rfl rfl (.cons rfl .nil) cal114 (CvL.refl _) (d_pool_own_c e68)) ?_
  refine tr tbk 2 (.mk ?_)
  refine sS ⟨69, 4, true, true, v7, [[lst 3 GLayer.av x68.Layers, int x68.Pend.a0, int x68.Pend.a1, int x68.Pend.a2]]⟩ sh69 ?_
  refine sS ⟨46, 3, true, true, v8, [[int 0, int 0, int 0]]⟩ sh46 ?_
  refine tr tbk 3 (.mk ?_)
  obtain rfl := nxt_e h0
  refine w_ret (hret _ _ _ (.cell rfl (.pt rfl rfl rfl) sh69 rfl (.cell rfl (.pt rfl rfl rfl) sh46 rfl (.tmp rfl (.tmp rfl .nil)))) (fun _ _ h => h) ?_)
  exact .refl _
  replace h0 := ct h0
  refine tc tbk 4 (.mk ?_)
  obtain ⟨x69, e69, h0⟩ := bind_e h0
  refine rst rfl rfl rfl (yv_callP rfl rfl (.cons rfl .nil) cal114 (CvL.refl _) (d_pool_own_c e69)) ?_
  refine tr tbk 1 (.mk ?_)
  refine sS ⟨69, 4, true, true, v7, [[lst 3 GLayer.av x69.Layers, int x69.Pend.a0, int x69.Pend.a1, int x69.Pend.a2]]⟩ sh69 ?_
  refine sS ⟨46, 3, true, true, v8, [[int 0, int 0, int 0]]⟩ sh46 ?_
  refine tr tbk 3 (.mk ?_)
  obtain rfl := nxt_e h0
  refine w_ret (hret _ _ _ (.cell rfl (.pt rfl rfl rfl) sh69 rfl (.cell rfl (.pt rfl rfl rfl) sh46 rfl (.tmp rfl (.tmp rfl .nil)))) (fun _ _ h => h) ?_)
  exact .refl _
  replace h0 := selr_r h0
  replace h0 := selr_r h0
  replace h0 := selr_r h0
  replace h0 := selr_r h0
  subst hc
  refine tr tbk 6 (.mk ?_)
  refine rst rfl rfl rfl (yv_ifeq rfl Tryz.underlying149 rfl rfl) ?_
  refine tr tbk 5 (.mk ?_)
  refine jn h0 [3, 4, 7, 10, 11, 12, 13, 14] [1, 2, 3] (fun (a : Bool) (k : Unit) => [(32, boo a)]) (fun a k => []) ⟨fun j70 h1 => ?_, ?_⟩
  refine tc tbk 2 (.mk ?_)
  refine nb tbk h1 fun x71 h1 => ?_
  refine tr tbk 1 (.mk ?_)
  cases x71
  replace h1 := cf h1
  refine tr tbk 1 (.mk ?_)
  refine nb tbk h1 fun x72 h1 => ?_
  refine tr tbk 2 (.mk ?_)
  exact lf h1 () leA
  replace h1 := ct h1
  refine tr tbk 4 (.mk ?_)
  exact lf h1 () leA
  rintro y5_1 _ h0
  cases y5_1
  replace h0 := cf h0
  refine tc tbk 4 (.mk ?_)
  refine rse rfl rfl rfl (yl_alloc 4 .any rfl z46 rfl) ?_; rintro _ _ ⟨v73, -, rfl, rfl⟩
  refine tr tbk 3 (.mk ?_)
  refine rse rfl rfl rfl (yl_alloc 5 .any rfl z69 rfl) ?_; rintro _ _ ⟨v74, -, rfl, rfl⟩
  refine tr tbk 8 (.mk ?_)
  obtain ⟨j75, h1, h0⟩ := bind_e h0
  refine rse (Out := fun y H' => (∃ (a : Unit) (k : Unit), a = j75 ∧ y = boo false ∧ H' = hk [(1, ⟨69, 4, true, true, v6, [[lst 3 GLayer.av a3.Layers, int a3.Pend.a0, int a3.Pend.a1, int a3.Pend.a2]]⟩), (2, ⟨69, 4, true, true, v7, [[.sc (.slice none 0 0), int 0, int 0, int 0]]⟩), (3, ⟨46, 3, true, true, v8, [[int 0, int 0, int 0]]⟩), (4, ⟨46, 3, true, true, v73, [[int 0, int 0, int 0]]⟩), (5, ⟨69, 4, true, true, v74, [[.sc (.slice none 0 0), int 0, int 0, int 0]]⟩)])) rfl rfl rfl (yl_call rfl rfl (.cons rfl .nil) cal156 ?_) ?_
  refine pcw (c := _) Tryz.func156 rfl rfl ?_; intro Q hret hnorm
  refine tc tbk 7 (.mk ?_)
  refine rst rfl rfl rfl (yv_tassF rfl Tryz.underlying184 rfl rfl rfl zag184) ?_
  refine tr tbk 3 (.mk ?_)
  refine rse rfl rfl rfl (yl_alloc 6 .any rfl z184 rfl) ?_; rintro _ _ ⟨v76, -, rfl, rfl⟩
  refine sS ⟨184, 0, true, true, v76, [[]]⟩ sh184 ?_
  refine tr tbk 7 (.mk ?_)
  obtain rfl := nxt_e h1
  refine w_ret (hret _ _ (hk [(1, ⟨69, 4, true, true, v6, [[lst 3 GLayer.av a3.Layers, int a3.Pend.a0, int a3.Pend.a1, int a3.Pend.a2]]⟩), (2, ⟨69, 4, true, true, v7, [[.sc (.slice none 0 0), int 0, int 0, int 0]]⟩), (3, ⟨46, 3, true, true, v8, [[int 0, int 0, int 0]]⟩), (4, ⟨46, 3, true, true, v73, [[int 0, int 0, int 0]]⟩), (5, ⟨69, 4, true, true, v74, [[.sc (.slice none 0 0), int 0, int 0, int 0]]⟩)]) (.tmp rfl .nil) (HK.le ⟨rfl, rfl, rfl, rfl, rfl, trivial⟩) ?_)
  exact ⟨(), (), rfl, rfl, rfl⟩
  rintro y _ ⟨_, _, rfl, hc, rfl⟩
  subst hc
  refine tr tbk 16 (.mk ?_)
  obtain ⟨j77, h1, h0⟩ := bind_e h0
  refine rse (Out := fun y H' => (∃ (a : GPool × GLayer × Int) (k : Unit), a = j77 ∧ y = .tup [.agg [lst 3 GLayer.av a.1.Layers, int a.1.Pend.a0, int a.1.Pend.a1, int a.1.Pend.a2], .agg [int a.2.1.Qty, int a.2.1.Value, int a.2.1.Profit], int a.2.2] ∧ H' = hk [(1, ⟨69, 4, true, true, v6, [[lst 3 GLayer.av a3.Layers, int a3.Pend.a0, int a3.Pend.a1, int a3.Pend.a2]]⟩), (2, ⟨69, 4, true, true, v7, [[.sc (.slice none 0 0), int 0, int 0, int 0]]⟩), (3, ⟨46, 3, true, true, v8, [[int 0, int 0, int 0]]⟩), (4, ⟨46, 3, true, true, v73, [[int 0, int 0, int 0]]⟩), (5, ⟨69, 4, true, true, v74, [[.sc (.slice none 0 0), int 0, int 0, int 0]]⟩)])) rfl rfl rfl (yl_callI rfl rfl mth182_185 (.cons rfl (.cons rfl .nil)) cal185 ?_) ?_
  refine pcw (c := _) Tryz.func185 rfl rfl ?_; intro Q hret hnorm
  refine tc tbk 2 (.mk ?_)
  refine rse rfl rfl rfl (yl_box 25 .any rfl rfl rfl) ?_; rintro _ _ ⟨v78, -, rfl, rfl⟩
  refine rse rfl rfl rfl (yl_box 26 .any rfl rfl rfl) ?_; rintro _ _ ⟨v79, -, rfl, rfl⟩
  refine rse rfl rfl rfl (yl_alloc 27 .any rfl z69 rfl) ?_; rintro _ _ ⟨v80, -, rfl, rfl⟩
  refine rse rfl rfl rfl (yl_alloc 28 .any rfl z46 rfl) ?_; rintro _ _ ⟨v81, -, rfl, rfl⟩
  refine tr tbk 7 (.mk ?_)
  obtain ⟨x82, e82, h1⟩ := bind_e h1
  refine rst rfl rfl rfl (yv_callP rfl rfl (.cons rfl (.cons rfl .nil)) cal187 (CvL.refl _) (d_fifo_Out_c e82)) ?_
  refine tr tbk 4 (.mk ?_)
  refine rse rfl rfl rfl (yl_alloc 29 .any rfl z46 rfl) ?_; rintro _ _ ⟨v83, -, rfl, rfl⟩
  refine tr tbk 1 (.mk ?_)
  refine sS ⟨46, 3, true, true, v83, [[int x82.2.1.Qty, int x82.2.1.Value, int x82.2.1.Profit]]⟩ sh46 ?_
  refine tr tbk 3 (.mk ?_)
  refine c_drawE [0, 0, 3, 0, 0, 7, 47, 127] (rl [(0, [26]), (3, [29])] []) (rl [(5, [29]), (6, [])] [26, 29]) (rl [(5, false), (6, false)] true) [0, 1, 2, 3, 4, 5, 6, 7] mixed (by kernel_rfl) ?_; intro K hK
  refine eL sh69 ?_
  refine eM ?_
  obtain ⟨x84, e84, h1⟩ := bind_e h1
  refine eP (fun H hH => yv_callP rfl rfl (.cons rfl (.cons rfl .nil)) cal145 (CvL.refl _) (d_pool_with_c e84)) ?_
  refine eL sh46 ?_
  refine eM ?_
  refine de_eff0 rfl rfl rfl rfl (Yield.weak (yl_ob (ob' := (⟨69, 4, true, true, v80, [[lst 3 GLayer.av x84.Layers, int x84.Pend.a0, int x84.Pend.a1, int x84.Pend.a2]]⟩ : AObj)) (yl_store rfl sh69 rfl rfl rfl rfl rfl rfl rfl rfl rfl) rfl) (fun _ h => h) (fun _ _ => trivial)) (by rintro _ _ ⟨rfl, rfl⟩; exact ⟨rfl, trivial⟩) ?_; rintro _ _ ⟨rfl, rfl⟩
  refine de_eff0 rfl rfl rfl rfl (Yield.weak (yl_ob (ob' := (⟨46, 3, true, true, v81, [[int x82.2.1.Qty, int x82.2.1.Value, int x82.2.1.Profit]]⟩ : AObj)) (yl_store rfl sh46 rfl rfl rfl rfl rfl rfl rfl rfl rfl) rfl) (fun _ h => h) (fun _ _ => trivial)) (by rintro _ _ ⟨rfl, rfl⟩; exact trivial) ?_; rintro _ _ ⟨rfl, rfl⟩
  refine eA ?_
  refine de_nil (hK _ ?_)
  obtain rfl := nxt_e h1
  refine w_ret (hret _ _ (hk [(1, ⟨69, 4, true, true, v6, [[lst 3 GLayer.av a3.Layers, int a3.Pend.a0, int a3.Pend.a1, int a3.Pend.a2]]⟩), (2, ⟨69, 4, true, true, v7, [[.sc (.slice none 0 0), int 0, int 0, int 0]]⟩), (3, ⟨46, 3, true, true, v8, [[int 0, int 0, int 0]]⟩), (4, ⟨46, 3, true, true, v73, [[int 0, int 0, int 0]]⟩), (5, ⟨69, 4, true, true, v74, [[.sc (.slice none 0 0), int 0, int 0, int 0]]⟩)]) (.cell rfl (.pt rfl rfl rfl) sh69 rfl (.cell rfl (.pt rfl rfl rfl) sh46 rfl (.tmp rfl .nil))) (HK.le ⟨rfl, rfl, rfl, rfl, rfl, trivial⟩) ?_)
  exact ⟨(x84, x82.2.1, x82.2.2), (), rfl, rfl, rfl⟩
  rintro y _ ⟨⟨y12_1, y12_2, y12_3⟩, _, rfl, hc, rfl⟩
  replace h0 := p2_e h0
  replace h0 := p2_e h0
  subst hc
  refine tr tbk 4 (.mk ?_)
  refine sS ⟨69, 4, true, true, v74, [[lst 3 GLayer.av y12_1.Layers, int y12_1.Pend.a0, int y12_1.Pend.a1, int y12_1.Pend.a2]]⟩ sh69 ?_
  refine sS ⟨46, 3, true, true, v73, [[int y12_2.Qty, int y12_2.Value, int y12_2.Profit]]⟩ sh46 ?_
  refine tr tbk 6 (.mk ?_)
  refine nb tbk h0 fun x85 h0 => ?_
  refine tr tbk 1 (.mk ?_)
  cases x85
  replace h0 := cf h0
  refine tc tbk 3 (.mk ?_)
  refine c_drawE [0, 0, 0, 1, 11, 31, 63] (rl [(0, [5]), (1, [4])] []) (rl [(3, [4]), (4, [])] [4, 5]) (rl [(3, false), (4, false)] true) [0, 1, 2, 3, 4, 5, 6] mixed (by kernel_rfl) ?_; intro K hK
  refine eL sh69 ?_
  refine eL sh46 ?_
  refine eM ?_
  refine de_eff0 rfl rfl rfl rfl (Yield.weak (yl_ob (ob' := (⟨69, 4, true, true, v7, [[lst 3 GLayer.av y12_1.Layers, int y12_1.Pend.a0, int y12_1.Pend.a1, int y12_1.Pend.a2]]⟩ : AObj)) (yl_store rfl sh69 rfl rfl rfl rfl rfl rfl rfl rfl rfl) rfl) (fun _ h => h) (fun _ _ => trivial)) (by rintro _ _ ⟨rfl, rfl⟩; exact ⟨rfl, trivial⟩) ?_; rintro _ _ ⟨rfl, rfl⟩
  refine de_eff0 rfl rfl rfl rfl (Yield.weak (yl_ob (ob' := (⟨46, 3, true, true, v8, [[int y12_2.Qty, int y12_2.Value, int y12_2.Profit]]⟩ : AObj)) (yl_store rfl sh46 rfl rfl rfl rfl rfl rfl rfl rfl rfl) rfl) (fun _ h => h) (fun _ _ => trivial)) (by rintro _ _ ⟨rfl, rfl⟩; exact trivial) ?_; rintro _ _ ⟨rfl, rfl⟩
  iterate 2 refine eA ?_
  refine de_nil (hK _ ?_)
  obtain rfl := nxt_e h0
  refine w_ret (hret _ _ _ (.cell rfl (.pt rfl rfl rfl) sh69 rfl (.cell rfl (.pt rfl rfl rfl) sh46 rfl (.tmp rfl (.tmp rfl .nil)))) (fun _ _ h => h) ?_)
  exact .refl _
  replace h0 := ct h0
  refine tc tbk 4 (.mk ?_)
  obtain ⟨x86, e86, h0⟩ := bind_e h0
  refine rst rfl rfl rfl (yv_callP rfl rfl (.cons rfl .nil) cal114 (CvL.refl _) (d_pool_own_c e86)) ?_
  refine tr tbk 2 (.mk ?_)
  refine sS ⟨69, 4, true, true, v7, [[lst 3 GLayer.av x86.Layers, int x86.Pend.a0, int x86.Pend.a1, int x86.Pend.a2]]⟩ sh69 ?_
  refine sS ⟨46, 3, true, true, v8, [[int 0, int 0, int 0]]⟩ sh46 ?_
  refine tr tbk 3 (.mk ?_)
  obtain rfl := nxt_e h0
  refine w_ret (hret _ _ _ (.cell rfl (.pt rfl rfl rfl) sh69 rfl (.cell rfl (.pt rfl rfl rfl) sh46 rfl (.tmp rfl (.tmp rfl .nil)))) (fun _ _ h => h) ?_)
  exact .refl _
  replace h0 := ct h0
  refine tc tbk 4 (.mk ?_)
  obtain ⟨x87, e87, h0⟩ := bind_e h0
  refine rst rfl rfl rfl (yv_callP rfl rfl (.cons rfl .nil) cal114 (CvL.refl _) (d_pool_own_c e87)) ?_
  refine tr tbk 1 (.mk ?_)
  refine sS ⟨69, 4, true, true, v7, [[lst 3 GLayer.av x87.Layers, int x87.Pend.a0, int x87.Pend.a1, int x87.Pend.a2]]⟩ sh69 ?_
  refine sS ⟨46, 3, true, true, v8, [[int 0, int 0, int 0]]⟩ sh46 ?_
  refine tr tbk 3 (.mk ?_)
  obtain rfl := nxt_e h0
  refine w_ret (hret _ _ _ (.cell rfl (.pt rfl rfl rfl) sh69 rfl (.cell rfl (.pt rfl rfl rfl) sh46 rfl (.tmp rfl (.tmp rfl .nil)))) (fun _ _ h => h) ?_)
  exact .refl _
def d_stock_Fetch (n : Nat) (a1 : GState) (a2 : Int) (a3 : Int) (a4 : Int) (a5 : Int) (a6 : Int) : Option (GState × GLayer × Bool × Int) :=
(d_stock_place a1 a2 a3 a4).bind fun x10 =>
bnd (decide (x10 < 0)) fun x11 =>
cond x11 (some ((a1 : GState), ((⟨0, 0, 0⟩ : GLayer) : GLayer), (false : Bool), (4 : Int))) ((ix a1.Master.Methods a2).bind fun x12 =>
(ix x12 a3).bind fun x13 =>
(ix a1.Master.Costs a2).bind fun x14 =>
(ix x14 a3).bind fun x15 =>
(ix a1.Ents a2).bind fun x16 =>
(ix x16.Pools x10).bind fun x17 =>
(d_pool_Out n x13 x15 x17 a5 a6).bind fun x18 =>
bnd x18.2.2.1 fun x20 =>
bnd (decide (x18.2.2.2 ≠ 0)) fun x21 =>
cond x21 (some ((a1 : GState), ((⟨0, 0, 0⟩ : GLayer) : GLayer), (false : Bool), (x18.2.2.2 : Int))) ((show Option ((Int × Bool × (List Int) × (List GRoll) × (List Int) × (List Int) × (List GEnt) × (List GPool))) from
(show Option ((Unit)) from
asrt (a1.Ents.length ≤ 68719476736) <|
(ix a1.Ents a2).bind fun x28 =>
some ()).bind <| fun _ =>
(ix a1.Ents a2).bind fun x29 =>
asrt (x29.Pools.length ≤ 68719476736) <|
(ix x29.Pools x10).bind fun x32 =>
bnd (x29.Pools.set (Int.toNat x10) (x18.1 : GPool)) fun x33 =>
some ((x29.Now : Int), (x29.Closed : Bool), (x29.Bal : List Int), (x29.Rolls : List GRoll), (x29.Prices : List Int), (x29.Down : List Int), (x29.Ahead : List GEnt), (x33 : List GPool))).bind <| p2 fun (y1_2 : Int) (q0 : Bool × (List Int) × (List GRoll) × (List Int) × (List Int) × (List GEnt) × (List GPool)) => (p2 fun (y1_3 : Bool) (q1 : (List Int) × (List GRoll) × (List Int) × (List Int) × (List GEnt) × (List GPool)) => (p2 fun (y1_5 : List Int) (q2 : (List GRoll) × (List Int) × (List Int) × (List GEnt) × (List GPool)) => (p2 fun (y1_6 : List GRoll) (q3 : (List Int) × (List Int) × (List GEnt) × (List GPool)) => (p2 fun (y1_7 : List Int) (q4 : (List Int) × (List GEnt) × (List GPool)) => (p2 fun (y1_8 : List Int) (q5 : (List GEnt) × (List GPool)) => (p2 fun (y1_9 : List GEnt) (y1_10 : List GPool) =>
(ix a1.Ents a2).bind fun x34 =>
some (((⟨a1.Master, (a1.Ents.set (Int.toNat a2) (⟨y1_2, y1_3, y1_10, y1_5, y1_6, y1_7, y1_8, y1_9⟩ : GEnt)), a1.Receipts, a1.Sales, a1.Transits, a1.Done⟩ : GState) : GState), (x18.2.1 : GLayer), (x20 : Bool), (0 : Int))) q5) q4) q3) q2) q1) q0))
theorem d_stock_Fetch_c {n : Nat} {a1 : GState} {a2 : Int} {a3 : Int} {a4 : Int} {a5 : Int} {a6 : Int} {r : GState × GLayer × Bool × Int} (h0 : d_stock_Fetch n a1 a2 a3 a4 a5 a6 = some r) : PP Tryz.prog 95 [.agg (GState.av a1), int a2, int a3, int a4, int a5, int a6] (fun y => y = .tup [.agg (GState.av r.1), .agg (GLayer.av r.2.1), boo r.2.2.1, int r.2.2.2]) := by
  unfold d_stock_Fetch at h0
  refine pp_of_pc (R0 := fun y H => Cv (frzH H) y (.tup [.agg (GState.av r.1), .agg (GLayer.av r.2.1), boo r.2.2.1, int r.2.2.2])) ?_ (fun y H hc => ⟨_, rfl, .tup (pvl4 ((fun (a : GState) => PV.agg (GState.pvc a)) (r.1)) ((fun (a : GLayer) => PV.agg (GLayer.pvc a)) (r.2.1)) (pvB (r.2.2.1)) (pvI (r.2.2.2))), hc⟩)
  refine pcw (c := _) Tryz.func95 rfl rfl ?_; intro Q hret hnorm
  refine tc tbk 2 (.mk ?_)
  refine rse rfl rfl rfl (yl_box 1 .any rfl rfl rfl) ?_; rintro _ _ ⟨v7, -, rfl, rfl⟩
  refine rse rfl rfl rfl (yl_alloc 2 .any rfl z32 rfl) ?_; rintro _ _ ⟨v8, -, rfl, rfl⟩
  refine rse rfl rfl rfl (yl_alloc 3 .any rfl z46 rfl) ?_; rintro _ _ ⟨v9, -, rfl, rfl⟩
  refine tr tbk 9 (.mk ?_)
  obtain ⟨x10, e10, h0⟩ := bind_e h0
  refine rst rfl rfl rfl (yv_callP rfl rfl (.cons rfl (.cons rfl (.cons rfl (.cons rfl .nil)))) cal72 (CvL.refl _) (d_stock_place_c e10)) ?_
  refine tr tbk 6 (.mk ?_)
  refine nb tbk h0 fun x11 h0 => ?_
  refine tr tbk 1 (.mk ?_)
  cases x11
  replace h0 := cf h0
  refine tc tbk 3 (.mk ?_)
  refine c_drawE [0, 1, 3, 0, 15, 31, 0, 127, 255, 0, 512, 1536, 0, 7680, 15872, 0, 65024, 130560, 0, 262144, 0, 1835008, 3932160, 8126464, 0, 33292288, 66846720, 0, 0, 536870911, 1073741823, 2147483647, 2147483647, 2147483647, 2147483647, 0, 38654705663, 111669149695, 257698037759, 549755813887] (rl [(0, [1]), (1, [1]), (2, [1]), (9, [1]), (10, [1]), (11, [1]), (18, [1]), (19, [1])] []) (rl [(36, []), (37, [])] [1]) (rl [(35, false), (36, false), (37, false)] true) [0, 1, 2, 3, 4, 5, 6, 7, 8, 9, 10, 11, 12, 13, 14, 15, 16, 17, 18, 19, 20, 21, 22, 23, 24, 25, 26, 27, 28, 29, 30, 31, 32, 33, 34, 35, 36, 37, 38, 39] mixed (by kernel_rfl) ?_; intro K hK
  refine eF fo32_0 ?_
  refine eF fo26_3 ?_
  refine eL sh24 ?_
  refine eM ?_
  obtain ⟨x12, e12, h0⟩ := bind_e h0
  refine eP (fun H hH => yv_ixT rfl Tryz.underlying24 sh23 rfl rfl e12) ?_
  refine eP (fun H hH => yv_load rfl sh23 rfl (.pp _) rfl) ?_
  refine eM ?_
  obtain ⟨x13, e13, h0⟩ := bind_e h0
  refine eP (fun H hH => yv_ixT rfl Tryz.underlying23 sh3 rfl rfl e13) ?_
  refine eP (fun H hH => yv_load rfl sh3 rfl (.pp _) rfl) ?_
  refine eF fo32_0 ?_
  refine eF fo26_4 ?_
  refine eL sh24 ?_
  refine eM ?_
  obtain ⟨x14, e14, h0⟩ := bind_e h0
  refine eP (fun H hH => yv_ixT rfl Tryz.underlying24 sh23 rfl rfl e14) ?_
  refine eP (fun H hH => yv_load rfl sh23 rfl (.pp _) rfl) ?_
  refine eM ?_
  obtain ⟨x15, e15, h0⟩ := bind_e h0
  refine eP (fun H hH => yv_ixT rfl Tryz.underlying23 sh3 rfl rfl e15) ?_
  refine eP (fun H hH => yv_load rfl sh3 rfl (.pp _) rfl) ?_
  refine eF fo32_1 ?_
  refine eL sh27 ?_
  refine eM ?_
  obtain ⟨x16, e16, h0⟩ := bind_e h0
  refine eP (fun H hH => yv_to (y := .pp [int x16.Now, boo x16.Closed, lst 4 GPool.av x16.Pools, lst 1 fI x16.Bal, lst 11 GRoll.av x16.Rolls, lst 1 fI x16.Prices, lst 1 fI x16.Down, lst 8 GEnt.av x16.Ahead]) (yv_ixT rfl Tryz.underlying27 sh42 rfl rfl e16) (congrArg AV.pp (GEnt.av_eq x16))) ?_
  refine eP (fun H hH => yv_fieldAddr rfl fo42_2 rfl (.pp _) (.pp _ _)) ?_
  refine eP (fun H hH => yv_load rfl sh39 rfl (.pp _) rfl) ?_
  refine eM ?_
  obtain ⟨x17, e17, h0⟩ := bind_e h0
  refine eP (fun H hH => yv_ixT rfl Tryz.underlying39 sh69 rfl rfl e17) ?_
  refine eP (fun H hH => yv_load rfl sh69 rfl (.pp _) rfl) ?_
  iterate 2 refine eM ?_
  obtain ⟨x18, e18, h0⟩ := bind_e h0
  refine eP (fun H hH => yv_callP rfl rfl (.cons rfl (.cons rfl (.cons rfl (.cons rfl (.cons rfl .nil))))) cal135 (CvL.refl _) (d_pool_Out_c e18)) ?_
  refine eM ?_
  iterate 4 refine eX ?_
  refine de_eff rfl rfl rfl rfl (yl_alloc 4 .any rfl z69 rfl) (by rintro _ _ ⟨v19, -, rfl, rfl⟩; exact ⟨rfl, trivial⟩) ?_; rintro _ _ ⟨v19, -, rfl, rfl⟩
  refine de_eff0 rfl rfl rfl rfl (Yield.weak (yl_ob (ob' := (⟨69, 4, true, true, v19, [[lst 3 GLayer.av x18.1.Layers, int x18.1.Pend.a0, int x18.1.Pend.a1, int x18.1.Pend.a2]]⟩ : AObj)) (yl_store rfl sh69 rfl rfl rfl rfl rfl rfl rfl rfl rfl) rfl) (fun _ h => h) (fun _ _ => trivial)) (by rintro _ _ ⟨rfl, rfl⟩; exact trivial) ?_; rintro _ _ ⟨rfl, rfl⟩
  refine de_eff0 rfl rfl rfl rfl (Yield.weak (yl_ob (ob' := (⟨46, 3, true, true, v9, [[int x18.2.1.Qty, int x18.2.1.Value, int x18.2.1.Profit]]⟩ : AObj)) (yl_store rfl sh46 rfl rfl rfl rfl rfl rfl rfl rfl rfl) rfl) (fun _ h => h) (fun _ _ => trivial)) (by rintro _ _ ⟨rfl, rfl⟩; exact trivial) ?_; rintro _ _ ⟨rfl, rfl⟩
  obtain ⟨x20, e20, h0⟩ := bnd_e h0
  refine eP (fun H hH => yv_to (y := boo x20) (yv_assign rfl rfl) (congrArg boo e20)) ?_
  refine eA ?_
  refine de_nil (hK _ ?_)
  refine tc tbk 4 (.mk ?_)
  refine nb tbk h0 fun x21 h0 => ?_
  refine tr tbk 1 (.mk ?_)
  cases x21
  replace h0 := cf h0
  refine tc tbk 5 (.mk ?_)
  refine rst rfl rfl rfl (yv_build (cs := [int a1.Master.Entities, int a1.Master.Periods, lst 1 fI a1.Master.Weights, lst 1 (fL 1 fI) a1.Master.Methods, lst 1 (fL 1 fI) a1.Master.Costs, lst 8 GEnt.av a1.Ents, lst 8 GReceipt.av a1.Receipts, lst 9 GSale.av a1.Sales, lst 6 GTransit.av a1.Transits, int a1.Done]) (ps := [(0, _)]) rfl pl104 z104 rfl (.cons rfl .nil) (by kernel_rfl)) ?_
  refine rse rfl rfl rfl (yl_alloc 5 .any rfl z104 rfl) ?_; rintro _ _ ⟨v22, -, rfl, rfl⟩
  refine sS ⟨104, 10, true, true, v22, [[int a1.Master.Entities, int a1.Master.Periods, lst 1 fI a1.Master.Weights, lst 1 (fL 1 fI) a1.Master.Methods, lst 1 (fL 1 fI) a1.Master.Costs, lst 8 GEnt.av a1.Ents, lst 8 GReceipt.av a1.Receipts, lst 9 GSale.av a1.Sales, lst 6 GTransit.av a1.Transits, int a1.Done]]⟩ sh104 ?_
  refine tr tbk 6 (.mk ?_)
  obtain ⟨j23, h1, h0⟩ := bind_e h0
  refine rse (Out := fun y H' => (∃ (a : Int × Bool × (List Int) × (List GRoll) × (List Int) × (List Int) × (List GEnt) × (List GPool)) (k : Nat × Nat), a = j23 ∧ y = .tup [] ∧ H' = hk [(1, ⟨32, 10, true, true, v7, [[int a1.Master.Entities, int a1.Master.Periods, lst 1 fI a1.Master.Weights, lst 1 (fL 1 fI) a1.Master.Methods, lst 1 (fL 1 fI) a1.Master.Costs, lst 8 GEnt.av a1.Ents, lst 8 GReceipt.av a1.Receipts, lst 9 GSale.av a1.Sales, lst 6 GTransit.av a1.Transits, int a1.Done]]⟩), (2, ⟨32, 10, true, true, v8, [[int 0, int 0, .sc (.slice none 0 0), .sc (.slice none 0 0), .sc (.slice none 0 0), .sc (.slice none 0 0), .sc (.slice none 0 0), .sc (.slice none 0 0), .sc (.slice none 0 0), int 0]]⟩), (3, ⟨46, 3, true, true, v9, [[int x18.2.1.Qty, int x18.2.1.Value, int x18.2.1.Profit]]⟩), (4, ⟨69, 4, true, true, v19, [[lst 3 GLayer.av x18.1.Layers, int x18.1.Pend.a0, int x18.1.Pend.a1, int x18.1.Pend.a2]]⟩), (5, ⟨104, 10, true, true, v22, [[int a1.Master.Entities, int a1.Master.Periods, lst 1 fI a1.Master.Weights, lst 1 (fL 1 fI) a1.Master.Methods, lst 1 (fL 1 fI) a1.Master.Costs, .sl 7 k.1 0 a1.Ents.length, lst 8 GReceipt.av a1.Receipts, lst 9 GSale.av a1.Sales, lst 6 GTransit.av a1.Transits, int a1.Done]]⟩), (7, ⟨42, 8, true, true, k.1, (a1.Ents.map GEnt.av).set (Int.toNat a2) [int a.1, boo a.2.1, .sl 8 k.2 0 a.2.2.2.2.2.2.2.length, lst 1 fI a.2.2.1, lst 11 GRoll.av a.2.2.2.1, lst 1 fI a.2.2.2.2.1, lst 1 fI a.2.2.2.2.2.1, lst 8 GEnt.av a.2.2.2.2.2.2.1]⟩), (8, ⟨69, 4, true, true, k.2, a.2.2.2.2.2.2.2.map GPool.av⟩)])) rfl rfl rfl (yl_call rfl rfl (.cons rfl (.cons rfl (.cons rfl (.cons rfl .nil)))) cal74 ?_) ?_
  refine pcw (c := _) Tryz.func74 rfl rfl ?_; intro Q hret hnorm
  refine tc tbk 2 (.mk ?_)
  refine rse rfl rfl rfl (yl_box 6 .any rfl rfl rfl) ?_; rintro _ _ ⟨v24, -, rfl, rfl⟩
  refine tr tbk 5 (.mk ?_)
  obtain ⟨j25, h2, h1⟩ := bind_e h1
  refine rse (Out := fun y H' => (∃ (a : Unit) (k : Nat), a = j25 ∧ y = .pt 7 k (Int.toNat a2) 0 ∧ H' = hk [(1, ⟨32, 10, true, true, v7, [[int a1.Master.Entities, int a1.Master.Periods, lst 1 fI a1.Master.Weights, lst 1 (fL 1 fI) a1.Master.Methods, lst 1 (fL 1 fI) a1.Master.Costs, lst 8 GEnt.av a1.Ents, lst 8 GReceipt.av a1.Receipts, lst 9 GSale.av a1.Sales, lst 6 GTransit.av a1.Transits, int a1.Done]]⟩), (2, ⟨32, 10, true, true, v8, [[int 0, int 0, .sc (.slice none 0 0), .sc (.slice none 0 0), .sc (.slice none 0 0), .sc (.slice none 0 0), .sc (.slice none 0 0), .sc (.slice none 0 0), .sc (.slice none 0 0), int 0]]⟩), (3, ⟨46, 3, true, true, v9, [[int x18.2.1.Qty, int x18.2.1.Value, int x18.2.1.Profit]]⟩), (4, ⟨69, 4, true, true, v19, [[lst 3 GLayer.av x18.1.Layers, int x18.1.Pend.a0, int x18.1.Pend.a1, int x18.1.Pend.a2]]⟩), (5, ⟨104, 10, true, true, v22, [[int a1.Master.Entities, int a1.Master.Periods, lst 1 fI a1.Master.Weights, lst 1 (fL 1 fI) a1.Master.Methods, lst 1 (fL 1 fI) a1.Master.Costs, .sl 7 k 0 a1.Ents.length, lst 8 GReceipt.av a1.Receipts, lst 9 GSale.av a1.Sales, lst 6 GTransit.av a1.Transits, int a1.Done]]⟩), (6, ⟨69, 4, true, true, v24, [[lst 3 GLayer.av x18.1.Layers, int x18.1.Pend.a0, int x18.1.Pend.a1, int x18.1.Pend.a2]]⟩), (7, ⟨42, 8, true, true, k, a1.Ents.map GEnt.av⟩)])) rfl rfl rfl (yl_call rfl rfl (.cons rfl (.cons rfl .nil)) cal79 ?_) ?_
  refine pcw (c := _) Tryz.func79 rfl rfl ?_; intro Q hret hnorm
  refine tc tbk 12 (.mk ?_)
  obtain ⟨p26, h2⟩ := asrt_e h2
  refine rse rfl rfl rfl (yl_call rfl rfl (.cons rfl .nil) cal106 (pc_cv (clone106_c (id := 7) (l := a1.Ents) rfl p26) (.cons (.refl _) .nil))) ?_; rintro _ _ ⟨v27, rfl, rfl⟩
  refine tr tbk 3 (.mk ?_)
  refine sS ⟨104, 10, true, true, v22, [[int a1.Master.Entities, int a1.Master.Periods, lst 1 fI a1.Master.Weights, lst 1 (fL 1 fI) a1.Master.Methods, lst 1 (fL 1 fI) a1.Master.Costs, .sl 7 v27 0 a1.Ents.length, lst 8 GReceipt.av a1.Receipts, lst 9 GSale.av a1.Sales, lst 6 GTransit.av a1.Transits, int a1.Done]]⟩ sh27 ?_
  refine tr tbk 9 (.mk ?_)
  obtain ⟨x28, e28, h2⟩ := bind_e h2
  refine rst rfl rfl rfl (yv_ixO rfl Tryz.underlying27 sh42 rfl rfl rfl rfl rfl (Eq.symm rfl) (List.length_map _) e28) ?_
  refine tr tbk 2 (.mk ?_)
  obtain rfl := nxt_e h2
  refine w_ret (hret _ _ (hk [(1, ⟨32, 10, true, true, v7, [[int a1.Master.Entities, int a1.Master.Periods, lst 1 fI a1.Master.Weights, lst 1 (fL 1 fI) a1.Master.Methods, lst 1 (fL 1 fI) a1.Master.Costs, lst 8 GEnt.av a1.Ents, lst 8 GReceipt.av a1.Receipts, lst 9 GSale.av a1.Sales, lst 6 GTransit.av a1.Transits, int a1.Done]]⟩), (2, ⟨32, 10, true, true, v8, [[int 0, int 0, .sc (.slice none 0 0), .sc (.slice none 0 0), .sc (.slice none 0 0), .sc (.slice none 0 0), .sc (.slice none 0 0), .sc (.slice none 0 0), .sc (.slice none 0 0), int 0]]⟩), (3, ⟨46, 3, true, true, v9, [[int x18.2.1.Qty, int x18.2.1.Value, int x18.2.1.Profit]]⟩), (4, ⟨69, 4, true, true, v19, [[lst 3 GLayer.av x18.1.Layers, int x18.1.Pend.a0, int x18.1.Pend.a1, int x18.1.Pend.a2]]⟩), (5, ⟨104, 10, true, true, v22, [[int a1.Master.Entities, int a1.Master.Periods, lst 1 fI a1.Master.Weights, lst 1 (fL 1 fI) a1.Master.Methods, lst 1 (fL 1 fI) a1.Master.Costs, .sl 7 v27 0 a1.Ents.length, lst 8 GReceipt.av a1.Receipts, lst 9 GSale.av a1.Sales, lst 6 GTransit.av a1.Transits, int a1.Done]]⟩), (6, ⟨69, 4, true, true, v24, [[lst 3 GLayer.av x18.1.Layers, int x18.1.Pend.a0, int x18.1.Pend.a1, int x18.1.Pend.a2]]⟩), (7, ⟨42, 8, true, true, v27, a1.Ents.map GEnt.av⟩)]) (.tmp rfl .nil) (HK.le ⟨rfl, rfl, rfl, rfl, rfl, rfl, rfl, trivial⟩) ?_)
  exact ⟨(), v27, rfl, rfl, rfl⟩
  rintro y _ ⟨_, w0_1, rfl, hc, rfl⟩
  subst hc
  refine tr tbk 6 (.mk ?_)
  obtain ⟨x29, e29, h1⟩ := bind_e h1
  refine rst rfl rfl rfl (yv_nilCheck rfl rfl (.pt rfl rfl (ix_get' e29 (GEnt.av_eq _)))) ?_
  refine rst rfl rfl rfl (yv_fieldAddr rfl fo42_2 rfl (.pt rfl rfl (ix_get' e29 (GEnt.av_eq _))) (.pt _ _ _ _ _)) ?_
  refine rst rfl rfl rfl (yv_load rfl sh39 rfl (.pt rfl rfl (ix_get' e29 (GEnt.av_eq _))) rfl) ?_
  obtain ⟨p30, h1⟩ := asrt_e h1
  refine rse rfl rfl rfl (yl_call rfl rfl (.cons rfl .nil) cal107 (pc_cv (clone107_c (id := 8) (l := x29.Pools) rfl p30) (.cons (.refl _) .nil))) ?_; rintro _ _ ⟨v31, rfl, rfl⟩
  refine rst rfl rfl rfl (yv_nilCheck rfl rfl (.pt rfl rfl (ix_get' e29 (GEnt.av_eq _)))) ?_
  refine rst rfl rfl rfl (yv_fieldAddr rfl fo42_2 rfl (.pt rfl rfl (ix_get' e29 (GEnt.av_eq _))) (.pt _ _ _ _ _)) ?_
  refine rsstore rfl rfl (yl_ob (ob' := (⟨42, 8, true, true, w0_1, (a1.Ents.map GEnt.av).set (Int.toNat a2) [int x29.Now, boo x29.Closed, .sl 8 v31 0 x29.Pools.length, lst 1 fI x29.Bal, lst 11 GRoll.av x29.Rolls, lst 1 fI x29.Prices, lst 1 fI x29.Down, lst 8 GEnt.av x29.Ahead]⟩ : AObj)) (yl_store rfl sh39 rfl rfl rfl rfl rfl (ix_get' e29 (GEnt.av_eq _)) rfl rfl rfl) (ob_eq rfl)) ?_
  refine tr tbk 1 (.mk ?_)
  refine c_drawE [0, 1, 3, 7, 0, 0, 63, 127] (rl [(1, [7]), (2, [7]), (3, [7]), (5, [6]), (6, [8])] []) (rl [(7, [])] [6, 7, 8]) (rl [(7, false)] true) [0, 1, 2, 3, 4, 5, 6, 7] mixed (by kernel_rfl) ?_; intro K hK
  refine eM ?_
  refine eN (hr := set_get e29) ?_
  refine eF fo42_2 (hr := set_get e29) ?_
  refine eL sh39 (hr := set_get e29) ?_
  refine eM ?_
  refine eL sh69 ?_
  obtain ⟨x32, e32, h1⟩ := bind_e h1
  refine de_pure rfl rfl rfl rfl (fun H hH => yv_ixO rfl Tryz.underlying39 sh69 rfl rfl ((hH _ (by decide)).trans rfl) rfl rfl (Eq.symm rfl) (List.length_map _) e32) ?_
  obtain ⟨x33, e33, h1⟩ := bnd_e h1
  have fx33 := ix_set e32 e33; have lx33 := len_setV e33 (rfl : x29.Pools.length = x29.Pools.length)
  refine de_eff0 rfl rfl rfl rfl (Yield.weak (yl_ob (ob' := (⟨69, 4, true, true, v31, x33.map GPool.av⟩ : AObj)) (yl_store rfl sh69 rfl rfl rfl rfl rfl (ix_get e32) rfl rfl rfl) (ob_eq (map_setV e33))) (fun _ h => h) (fun _ _ => trivial)) (by rintro _ _ ⟨rfl, rfl⟩; exact trivial) ?_; rintro _ _ ⟨rfl, rfl⟩
  refine de_nil (hK _ ?_)
  obtain rfl := nxt_e h1
  refine c_nil (hnorm _ _ (hk [(1, ⟨32, 10, true, true, v7, [[int a1.Master.Entities, int a1.Master.Periods, lst 1 fI a1.Master.Weights, lst 1 (fL 1 fI) a1.Master.Methods, lst 1 (fL 1 fI) a1.Master.Costs, lst 8 GEnt.av a1.Ents, lst 8 GReceipt.av a1.Receipts, lst 9 GSale.av a1.Sales, lst 6 GTransit.av a1.Transits, int a1.Done]]⟩), (2, ⟨32, 10, true, true, v8, [[int 0, int 0, .sc (.slice none 0 0), .sc (.slice none 0 0), .sc (.slice none 0 0), .sc (.slice none 0 0), .sc (.slice none 0 0), .sc (.slice none 0 0), .sc (.slice none 0 0), int 0]]⟩), (3, ⟨46, 3, true, true, v9, [[int x18.2.1.Qty, int x18.2.1.Value, int x18.2.1.Profit]]⟩), (4, ⟨69, 4, true, true, v19, [[lst 3 GLayer.av x18.1.Layers, int x18.1.Pend.a0, int x18.1.Pend.a1, int x18.1.Pend.a2]]⟩), (5, ⟨104, 10, true, true, v22, [[int a1.Master.Entities, int a1.Master.Periods, lst 1 fI a1.Master.Weights, lst 1 (fL 1 fI) a1.Master.Methods, lst 1 (fL 1 fI) a1.Master.Costs, .sl 7 w0_1 0 a1.Ents.length, lst 8 GReceipt.av a1.Receipts, lst 9 GSale.av a1.Sales, lst 6 GTransit.av a1.Transits, int a1.Done]]⟩), (7, ⟨42, 8, true, true, w0_1, (a1.Ents.map GEnt.av).set (Int.toNat a2) [int x29.Now, boo x29.Closed, .sl 8 v31 0 x33.length, lst 1 fI x29.Bal, lst 11 GRoll.av x29.Rolls, lst 1 fI x29.Prices, lst 1 fI x29.Down, lst 8 GEnt.av x29.Ahead]⟩), (8, ⟨69, 4, true, true, v31, x33.map GPool.av⟩)]) .nil (HK.le ⟨rfl, rfl, rfl, rfl, rfl, (by first | rfl | exact lx33 ▸ rfl), rfl, trivial⟩) ?_)
  exact ⟨(x29.Now, x29.Closed, x29.Bal, x29.Rolls, x29.Prices, x29.Down, x29.Ahead, x33), (w0_1, v31), rfl, rfl, rfl⟩
  rintro y _ ⟨⟨y1_2, y1_3, y1_5, y1_6, y1_7, y1_8, y1_9, y1_10⟩, ⟨w1_1, w1_4⟩, rfl, hc, rfl⟩
  replace h0 := p2_e h0
  replace h0 := p2_e h0
  replace h0 := p2_e h0
  replace h0 := p2_e h0
  replace h0 := p2_e h0
  replace h0 := p2_e h0
  replace h0 := p2_e h0
  subst hc
  obtain ⟨x34, e34, h0⟩ := bind_e h0
  refine tr tbk 2 (.mk ?_)
  refine c_drawE [0, 1, 0, 0, 3, 23, 63, 127] (rl [(0, [5]), (1, [5]), (2, [3])] []) (rl [(4, [3]), (5, [])] [3, 5]) (rl [(4, false), (5, false)] true) [0, 1, 2, 3, 4, 5, 6, 7] mixed (by kernel_rfl) ?_; intro K hK
  refine eF fo104_0 ?_
  refine eL sh32 ?_
  refine eL sh46 ?_
  refine eM ?_
  refine de_eff0 rfl rfl rfl rfl (Yield.weak (yl_ob (ob' := (⟨32, 10, true, true, v8, [[int a1.Master.Entities, int a1.Master.Periods, lst 1 fI a1.Master.Weights, lst 1 (fL 1 fI) a1.Master.Methods, lst 1 (fL 1 fI) a1.Master.Costs, .sl 7 w1_1 0 a1.Ents.length, lst 8 GReceipt.av a1.Receipts, lst 9 GSale.av a1.Sales, lst 6 GTransit.av a1.Transits, int a1.Done]]⟩ : AObj)) (yl_store rfl sh32 rfl rfl rfl rfl rfl rfl rfl rfl rfl) rfl) (fun _ h => h) (fun _ _ => trivial)) (by rintro _ _ ⟨rfl, rfl⟩; exact ⟨rfl, trivial⟩) ?_; rintro _ _ ⟨rfl, rfl⟩
  refine de_eff0 rfl rfl rfl rfl (Yield.weak (yl_ob (ob' := (⟨46, 3, true, true, v9, [[int x18.2.1.Qty, int x18.2.1.Value, int x18.2.1.Profit]]⟩ : AObj)) (yl_store rfl sh46 rfl rfl rfl rfl rfl rfl rfl rfl rfl) rfl) (fun _ h => h) (fun _ _ => trivial)) (by rintro _ _ ⟨rfl, rfl⟩; exact trivial) ?_; rintro _ _ ⟨rfl, rfl⟩
  iterate 2 refine eA ?_
  refine de_nil (hK _ ?_)
  obtain rfl := nxt_e h0
  refine w_ret (hret _ _ _ (.cell rfl (.pt rfl rfl rfl) sh32 rfl (.cell rfl (.pt rfl rfl rfl) sh46 rfl (.tmp rfl (.tmp rfl .nil)))) (fun _ _ h => h) ?_)
  exact CvL.tup (.cons (CvL.agg (.cons (.refl _) (.cons (.refl _) (.cons (.refl _) (.cons (.refl _) (.cons (.refl _) (.cons (cv_ov rfl rfl rfl rfl rfl (Eq.symm rfl) e34 (cvl_to (.cons (.refl _) (.cons (.refl _) (.cons (cv_lst rfl rfl rfl rfl rfl (Eq.symm rfl)) (.cons (.refl _) (.cons (.refl _) (.cons (.refl _) (.cons (.refl _) (.cons (.refl _) .nil)))))))) (GEnt.av_eq _))) (.cons (.refl _) (.cons (.refl _) (.cons (.refl _) (.cons (.refl _) .nil))))))))))) (.cons (.refl _) (.cons (.refl _) (.cons (.refl _) .nil))))
  replace h0 := ct h0
  refine tc tbk 6 (.mk ?_)
  refine sS ⟨32, 10, true, true, v8, [[int a1.Master.Entities, int a1.Master.Periods, lst 1 fI a1.Master.Weights, lst 1 (fL 1 fI) a1.Master.Methods, lst 1 (fL 1 fI) a1.Master.Costs, lst 8 GEnt.av a1.Ents, lst 8 GReceipt.av a1.Receipts, lst 9 GSale.av a1.Sales, lst 6 GTransit.av a1.Transits, int a1.Done]]⟩ sh32 ?_
  refine sS ⟨46, 3, true, true, v9, [[int 0, int 0, int 0]]⟩ sh46 ?_
  refine tr tbk 3 (.mk ?_)
  obtain rfl := nxt_e h0
  refine w_ret (hret _ _ _ (.cell rfl (.pt rfl rfl rfl) sh32 rfl (.cell rfl (.pt rfl rfl rfl) sh46 rfl (.tmp rfl (.tmp rfl .nil)))) (fun _ _ h => h) ?_)
  exact .refl _
  replace h0 := ct h0
  refine tc tbk 5 (.mk ?_)
  refine sS ⟨32, 10, true, true, v8, [[int a1.Master.Entities, int a1.Master.Periods, lst 1 fI a1.Master.Weights, lst 1 (fL 1 fI) a1.Master.Methods, lst 1 (fL 1 fI) a1.Master.Costs, lst 8 GEnt.av a1.Ents, lst 8 GReceipt.av a1.Receipts, lst 9 GSale.av a1.Sales, lst 6 GTransit.av a1.Transits, int a1.Done]]⟩ sh32 ?_
  refine sS ⟨46, 3, true, true, v9, [[int 0, int 0, int 0]]⟩ sh46 ?_
  refine tr tbk 3 (.mk ?_)
  obtain rfl := nxt_e h0
  refine w_ret (hret _ _ _ (.cell rfl (.pt rfl rfl rfl) sh32 rfl (.cell rfl (.pt rfl rfl rfl) sh46 rfl (.tmp rfl (.tmp rfl .nil)))) (fun _ _ h => h) ?_)
  exact .refl _
def d_match_due_paid (n : Nat) (a1 : GReceipt) (a2 : Int) : Option (Int) :=
(d_money_Part n a1.Value a2 a1.Qty).bind fun x4 =>
some ((x4 : Int))
theorem d_match_due_paid_c {n : Nat} {a1 : GReceipt} {a2 : Int} {r : Int} (h0 : d_match_due_paid n a1 a2 = some r) : PP Tryz.prog 96 [.agg (GReceipt.av a1), int a2] (fun y => y = int r) := by
  unfold d_match_due_paid at h0
  refine pp_of_pc (R0 := fun y H => Cv (frzH H) y (int r)) ?_ (fun y H hc => ⟨_, rfl, pvI r, hc⟩)
  refine pcw (c := _) Tryz.func96 rfl rfl ?_; intro Q hret hnorm
  refine tc tbk 2 (.mk ?_)
  refine rse rfl rfl rfl (yl_box 1 .any rfl rfl rfl) ?_; rintro _ _ ⟨v3, -, rfl, rfl⟩
  refine tr tbk 9 (.mk ?_)
  obtain ⟨x4, e4, h0⟩ := bind_e h0
  refine rst rfl rfl rfl (yv_callP rfl rfl (.cons rfl (.cons rfl (.cons rfl .nil))) cal91 (CvL.refl _) (d_money_Part_c e4)) ?_
  refine tr tbk 2 (.mk ?_)
  obtain rfl := nxt_e h0
  refine w_ret (hret _ _ _ (.tmp rfl .nil) (fun _ _ h => h) ?_)
  exact .refl _
def d_stock_Turn (a1 : GState) (a2 : Int) (a3 : Int) (a4 : GRoll) : Option (GState × Int) :=
(d_stock_is a1 a2 a3).bind fun x8 =>
bnd (!x8) fun x9 =>
cond x9 (some ((a1 : GState), (4 : Int))) ((ix a1.Ents a2).bind fun x10 =>
(ix x10.Rolls a3).bind fun x11 =>
(show Option ((Unit)) from
some ()).bind <| fun _ =>
(show Option ((GRoll) ⊕ (GState × Int)) from
(ix ([a4.Open, a4.Bought, a4.Landed, a4.Arrived, a4.Returned, a4.Sold, a4.Shipped, a4.SentBack, a4.Scrapped, a4.Lost, a4.Revalued] : List Int) 0).bind fun x16 =>
(show Option ((Unit)) from
some ()).bind <| fun _ =>
(d_money_Add x11.Open x16).bind fun x18 =>
bnd (decide (x18.2 ≠ 0)) fun x19 =>
cond x19 (esc (some ((a1 : GState), (x18.2 : Int)))) ((ix ([a4.Open, a4.Bought, a4.Landed, a4.Arrived, a4.Returned, a4.Sold, a4.Shipped, a4.SentBack, a4.Scrapped, a4.Lost, a4.Revalued] : List Int) 1).bind fun x20 =>
(show Option ((Unit)) from
some ()).bind <| fun _ =>
(d_money_Add x11.Bought x20).bind fun x22 =>
bnd (decide (x22.2 ≠ 0)) fun x23 =>
cond x23 (esc (some ((a1 : GState), (x22.2 : Int)))) ((ix ([a4.Open, a4.Bought, a4.Landed, a4.Arrived, a4.Returned, a4.Sold, a4.Shipped, a4.SentBack, a4.Scrapped, a4.Lost, a4.Revalued] : List Int) 2).bind fun x24 =>
(show Option ((Unit)) from
some ()).bind <| fun _ =>
(d_money_Add x11.Landed x24).bind fun x26 =>
bnd (decide (x26.2 ≠ 0)) fun x27 =>
cond x27 (esc (some ((a1 : GState), (x26.2 : Int)))) ((ix ([a4.Open, a4.Bought, a4.Landed, a4.Arrived, a4.Returned, a4.Sold, a4.Shipped, a4.SentBack, a4.Scrapped, a4.Lost, a4.Revalued] : List Int) 3).bind fun x28 =>
(show Option ((Unit)) from
some ()).bind <| fun _ =>
(d_money_Add x11.Arrived x28).bind fun x30 =>
bnd (decide (x30.2 ≠ 0)) fun x31 =>
cond x31 (esc (some ((a1 : GState), (x30.2 : Int)))) ((ix ([a4.Open, a4.Bought, a4.Landed, a4.Arrived, a4.Returned, a4.Sold, a4.Shipped, a4.SentBack, a4.Scrapped, a4.Lost, a4.Revalued] : List Int) 4).bind fun x32 =>
(show Option ((Unit)) from
some ()).bind <| fun _ =>
(d_money_Add x11.Returned x32).bind fun x34 =>
bnd (decide (x34.2 ≠ 0)) fun x35 =>
cond x35 (esc (some ((a1 : GState), (x34.2 : Int)))) ((ix ([a4.Open, a4.Bought, a4.Landed, a4.Arrived, a4.Returned, a4.Sold, a4.Shipped, a4.SentBack, a4.Scrapped, a4.Lost, a4.Revalued] : List Int) 5).bind fun x36 =>
(show Option ((Unit)) from
some ()).bind <| fun _ =>
(d_money_Add x11.Sold x36).bind fun x38 =>
bnd (decide (x38.2 ≠ 0)) fun x39 =>
cond x39 (esc (some ((a1 : GState), (x38.2 : Int)))) ((ix ([a4.Open, a4.Bought, a4.Landed, a4.Arrived, a4.Returned, a4.Sold, a4.Shipped, a4.SentBack, a4.Scrapped, a4.Lost, a4.Revalued] : List Int) 6).bind fun x40 =>
(show Option ((Unit)) from
some ()).bind <| fun _ =>
(d_money_Add x11.Shipped x40).bind fun x42 =>
bnd (decide (x42.2 ≠ 0)) fun x43 =>
cond x43 (esc (some ((a1 : GState), (x42.2 : Int)))) ((ix ([a4.Open, a4.Bought, a4.Landed, a4.Arrived, a4.Returned, a4.Sold, a4.Shipped, a4.SentBack, a4.Scrapped, a4.Lost, a4.Revalued] : List Int) 7).bind fun x44 =>
(show Option ((Unit)) from
some ()).bind <| fun _ =>
(d_money_Add x11.SentBack x44).bind fun x46 =>
bnd (decide (x46.2 ≠ 0)) fun x47 =>
cond x47 (esc (some ((a1 : GState), (x46.2 : Int)))) ((ix ([a4.Open, a4.Bought, a4.Landed, a4.Arrived, a4.Returned, a4.Sold, a4.Shipped, a4.SentBack, a4.Scrapped, a4.Lost, a4.Revalued] : List Int) 8).bind fun x48 =>
(show Option ((Unit)) from
some ()).bind <| fun _ =>
(d_money_Add x11.Scrapped x48).bind fun x50 =>
bnd (decide (x50.2 ≠ 0)) fun x51 =>
cond x51 (esc (some ((a1 : GState), (x50.2 : Int)))) ((ix ([a4.Open, a4.Bought, a4.Landed, a4.Arrived, a4.Returned, a4.Sold, a4.Shipped, a4.SentBack, a4.Scrapped, a4.Lost, a4.Revalued] : List Int) 9).bind fun x52 =>
(show Option ((Unit)) from
some ()).bind <| fun _ =>
(d_money_Add x11.Lost x52).bind fun x54 =>
bnd (decide (x54.2 ≠ 0)) fun x55 =>
cond x55 (esc (some ((a1 : GState), (x54.2 : Int)))) ((ix ([a4.Open, a4.Bought, a4.Landed, a4.Arrived, a4.Returned, a4.Sold, a4.Shipped, a4.SentBack, a4.Scrapped, a4.Lost, a4.Revalued] : List Int) 10).bind fun x56 =>
(show Option ((Unit)) from
some ()).bind <| fun _ =>
(d_money_Add x11.Revalued x56).bind fun x58 =>
bnd (decide (x58.2 ≠ 0)) fun x59 =>
cond x59 (esc (some ((a1 : GState), (x58.2 : Int)))) (brk ((⟨x18.1, x22.1, x26.1, x30.1, x34.1, x38.1, x42.1, x46.1, x50.1, x54.1, x58.1⟩ : GRoll) : GRoll))))))))))))).bind <| sel <| fun y2_1 =>
(show Option ((Unit)) from
asrt (a1.Ents.length ≤ 68719476736) <|
(ix a1.Ents a2).bind fun x75 =>
some ()).bind <| fun _ =>
(ix a1.Ents a2).bind fun x76 =>
asrt (x76.Rolls.length ≤ 68719476736) <|
(ix x76.Rolls a3).bind fun x79 =>
bnd (x76.Rolls.set (Int.toNat a3) (y2_1 : GRoll)) fun x80 =>
some (((⟨a1.Master, (a1.Ents.set (Int.toNat a2) (⟨x76.Now, x76.Closed, x76.Pools, x76.Bal, x80, x76.Prices, x76.Down, x76.Ahead⟩ : GEnt)), a1.Receipts, a1.Sales, a1.Transits, a1.Done⟩ : GState) : GState), (0 : Int)))
theorem d_stock_Turn_c {a1 : GState} {a2 : Int} {a3 : Int} {a4 : GRoll} {r : GState × Int} (h0 : d_stock_Turn a1 a2 a3 a4 = some r) : PP Tryz.prog 44 [.agg (GState.av a1), int a2, int a3, .agg (GRoll.av a4)] (fun y => y = .tup [.agg (GState.av r.1), int r.2]) := by
  unfold d_stock_Turn at h0
  refine pp_of_pc (R0 := fun y H => Cv (frzH H) y (.tup [.agg (GState.av r.1), int r.2])) ?_ (fun y H hc => ⟨_, rfl, .tup (pvl2 ((fun (a : GState) => PV.agg (GState.pvc a)) (r.1)) (pvI (r.2))), hc⟩)
  refine pcw (c := _) Tryz.func44 rfl rfl ?_; intro Q hret hnorm
  refine tc tbk 2 (.mk ?_)
  refine rse rfl rfl rfl (yl_box 1 .any rfl rfl rfl) ?_; rintro _ _ ⟨v5, -, rfl, rfl⟩
  refine rse rfl rfl rfl (yl_box 2 .any rfl rfl rfl) ?_; rintro _ _ ⟨v6, -, rfl, rfl⟩
  refine rse rfl rfl rfl (yl_alloc 3 .any rfl z32 rfl) ?_; rintro _ _ ⟨v7, -, rfl, rfl⟩
  refine tr tbk 8 (.mk ?_)
  obtain ⟨x8, e8, h0⟩ := bind_e h0
  refine rst rfl rfl rfl (yv_callP rfl rfl (.cons rfl (.cons rfl (.cons rfl .nil))) cal71 (CvL.refl _) (d_stock_is_c e8)) ?_
  refine nb tbk h0 fun x9 h0 => ?_
  refine tr tbk 1 (.mk ?_)
  cases x9
  replace h0 := cf h0
  refine tc tbk 7 (.mk ?_)
  obtain ⟨x10, e10, h0⟩ := bind_e h0
  refine rst rfl rfl rfl (yv_to (y := .pp [int x10.Now, boo x10.Closed, lst 4 GPool.av x10.Pools, lst 1 fI x10.Bal, lst 11 GRoll.av x10.Rolls, lst 1 fI x10.Prices, lst 1 fI x10.Down, lst 8 GEnt.av x10.Ahead]) (yv_ixT rfl Tryz.underlying27 sh42 rfl rfl e10) (congrArg AV.pp (GEnt.av_eq x10))) ?_
  refine tr tbk 3 (.mk ?_)
  obtain ⟨x11, e11, h0⟩ := bind_e h0
  refine rst rfl rfl rfl (yv_ixT rfl Tryz.underlying40 sh49 rfl rfl e11) ?_
  refine tr tbk 1 (.mk ?_)
  refine rse rfl rfl rfl (yl_alloc 4 .any rfl z49 rfl) ?_; rintro _ _ ⟨v12, -, rfl, rfl⟩
  refine sS ⟨49, 11, true, true, v12, [[int x11.Open, int x11.Bought, int x11.Landed, int x11.Arrived, int x11.Returned, int x11.Sold, int x11.Shipped, int x11.SentBack, int x11.Scrapped, int x11.Lost, int x11.Revalued]]⟩ sh49 ?_
  refine tr tbk 5 (.mk ?_)
  obtain ⟨j13, h1, h0⟩ := bind_e h0
  refine rse (Out := fun y H' => (∃ (a : Unit) (k : Unit), a = j13 ∧ y = lst 1 fI ([a4.Open, a4.Bought, a4.Landed, a4.Arrived, a4.Returned, a4.Sold, a4.Shipped, a4.SentBack, a4.Scrapped, a4.Lost, a4.Revalued] : List Int) ∧ H' = hk [(1, ⟨32, 10, true, true, v5, [[int a1.Master.Entities, int a1.Master.Periods, lst 1 fI a1.Master.Weights, lst 1 (fL 1 fI) a1.Master.Methods, lst 1 (fL 1 fI) a1.Master.Costs, lst 8 GEnt.av a1.Ents, lst 8 GReceipt.av a1.Receipts, lst 9 GSale.av a1.Sales, lst 6 GTransit.av a1.Transits, int a1.Done]]⟩), (2, ⟨49, 11, true, true, v6, [[int a4.Open, int a4.Bought, int a4.Landed, int a4.Arrived, int a4.Returned, int a4.Sold, int a4.Shipped, int a4.SentBack, int a4.Scrapped, int a4.Lost, int a4.Revalued]]⟩), (3, ⟨32, 10, true, true, v7, [[int 0, int 0, .sc (.slice none 0 0), .sc (.slice none 0 0), .sc (.slice none 0 0), .sc (.slice none 0 0), .sc (.slice none 0 0), .sc (.slice none 0 0), .sc (.slice none 0 0), int 0]]⟩), (4, ⟨49, 11, true, true, v12, [[int x11.Open, int x11.Bought, int x11.Landed, int x11.Arrived, int x11.Returned, int x11.Sold, int x11.Shipped, int x11.SentBack, int x11.Scrapped, int x11.Lost, int x11.Revalued]]⟩)])) rfl rfl rfl (yl_call rfl rfl (.cons rfl .nil) cal80 ?_) ?_
  refine pcw (c := _) Tryz.func80 rfl rfl ?_; intro Q hret hnorm
  refine tc tbk 2 (.mk ?_)
  refine rse rfl rfl rfl (yl_box 5 .any rfl rfl rfl) ?_; rintro _ _ ⟨v14, -, rfl, rfl⟩
  refine tr tbk 26 (.mk ?_)
  refine rst rfl rfl rfl (yv_to (y := lst 1 fI ([a4.Open, a4.Bought, a4.Landed, a4.Arrived, a4.Returned, a4.Sold, a4.Shipped, a4.SentBack, a4.Scrapped, a4.Lost, a4.Revalued] : List Int)) (yv_buildSlice (ps := [(0, _), (1, _), (2, _), (3, _), (4, _), (5, _), (6, _), (7, _), (8, _), (9, _), (10, _)]) (rows := [[int a4.Open], [int a4.Bought], [int a4.Landed], [int a4.Arrived], [int a4.Returned], [int a4.Sold], [int a4.Shipped], [int a4.SentBack], [int a4.Scrapped], [int a4.Lost], [int a4.Revalued]]) rfl Tryz.underlying23 bz3 (.cons rfl (.cons rfl (.cons rfl (.cons rfl (.cons rfl (.cons rfl (.cons rfl (.cons rfl (.cons rfl (.cons rfl (.cons rfl .nil))))))))))) (by kernel_rfl) rfl rfl rfl) rfl) ?_
  refine tr tbk 2 (.mk ?_)
  obtain rfl := nxt_e h1
  refine w_ret (hret _ _ (hk [(1, ⟨32, 10, true, true, v5, [[int a1.Master.Entities, int a1.Master.Periods, lst 1 fI a1.Master.Weights, lst 1 (fL 1 fI) a1.Master.Methods, lst 1 (fL 1 fI) a1.Master.Costs, lst 8 GEnt.av a1.Ents, lst 8 GReceipt.av a1.Receipts, lst 9 GSale.av a1.Sales, lst 6 GTransit.av a1.Transits, int a1.Done]]⟩), (2, ⟨49, 11, true, true, v6, [[int a4.Open, int a4.Bought, int a4.Landed, int a4.Arrived, int a4.Returned, int a4.Sold, int a4.Shipped, int a4.SentBack, int a4.Scrapped, int a4.Lost, int a4.Revalued]]⟩), (3, ⟨32, 10, true, true, v7, [[int 0, int 0, .sc (.slice none 0 0), .sc (.slice none 0 0), .sc (.slice none 0 0), .sc (.slice none 0 0), .sc (.slice none 0 0), .sc (.slice none 0 0), .sc (.slice none 0 0), int 0]]⟩), (4, ⟨49, 11, true, true, v12, [[int x11.Open, int x11.Bought, int x11.Landed, int x11.Arrived, int x11.Returned, int x11.Sold, int x11.Shipped, int x11.SentBack, int x11.Scrapped, int x11.Lost, int x11.Revalued]]⟩)]) (.tmp rfl .nil) (HK.le ⟨rfl, rfl, rfl, rfl, trivial⟩) ?_)
  exact ⟨(), (), rfl, rfl, rfl⟩
  rintro y _ ⟨_, _, rfl, hc, rfl⟩
  subst hc
  refine rst rfl rfl rfl (yv_to (y := int 11) (yv_len_sl rfl Tryz.underlying23 rfl (lst_len _)) rfl) ?_
  refine tr tbk 2 (.mk ?_)
  refine jnE h0 [1, 2, 4, 8, 9, 10] [1, 3] (fun (a : GRoll) (k : Unit) => []) (fun a k => [(4, ⟨49, 11, true, true, v12, [[int a.Open, int a.Bought, int a.Landed, int a.Arrived, int a.Returned, int a.Sold, int a.Shipped, int a.SentBack, int a.Scrapped, int a.Lost, int a.Revalued]]⟩)]) ⟨fun j15 h1 h0 => ?_, ?_⟩
  refine tc tbk 4 (.mk ?_)
  refine rst rfl rfl rfl (yv_to (y := boo true) (yv_lss rfl rfl rfl) (congrArg boo (by decide))) ?_
  refine tr tbk 9 (.mk ?_)
  obtain ⟨x16, e16, h1⟩ := bind_e h1
  refine rst rfl rfl rfl (yv_ixT rfl Tryz.underlying23 sh3 rfl rfl e16) ?_
  refine tr tbk 6 (.mk ?_)
  obtain ⟨j17, h2, h1⟩ := bind_e h1
  refine rse (Out := fun y H' => (∃ (a : Unit) (k : Unit), a = j17 ∧ y = .list 1 [[.pt 4 v12 0 0], [.pt 4 v12 0 1], [.pt 4 v12 0 2], [.pt 4 v12 0 3], [.pt 4 v12 0 4], [.pt 4 v12 0 5], [.pt 4 v12 0 6], [.pt 4 v12 0 7], [.pt 4 v12 0 8], [.pt 4 v12 0 9], [.pt 4 v12 0 10]] ∧ H' = hk [(1, ⟨32, 10, true, true, v5, [[int a1.Master.Entities, int a1.Master.Periods, lst 1 fI a1.Master.Weights, lst 1 (fL 1 fI) a1.Master.Methods, lst 1 (fL 1 fI) a1.Master.Costs, lst 8 GEnt.av a1.Ents, lst 8 GReceipt.av a1.Receipts, lst 9 GSale.av a1.Sales, lst 6 GTransit.av a1.Transits, int a1.Done]]⟩), (2, ⟨49, 11, true, true, v6, [[int a4.Open, int a4.Bought, int a4.Landed, int a4.Arrived, int a4.Returned, int a4.Sold, int a4.Shipped, int a4.SentBack, int a4.Scrapped, int a4.Lost, int a4.Revalued]]⟩), (3, ⟨32, 10, true, true, v7, [[int 0, int 0, .sc (.slice none 0 0), .sc (.slice none 0 0), .sc (.slice none 0 0), .sc (.slice none 0 0), .sc (.slice none 0 0), .sc (.slice none 0 0), .sc (.slice none 0 0), int 0]]⟩), (4, ⟨49, 11, true, true, v12, [[int x11.Open, int x11.Bought, int x11.Landed, int x11.Arrived, int x11.Returned, int x11.Sold, int x11.Shipped, int x11.SentBack, int x11.Scrapped, int x11.Lost, int x11.Revalued]]⟩)])) rfl rfl rfl (yl_call rfl rfl (.cons rfl .nil) cal81 ?_) ?_
  refine pcw (c := _) Tryz.func81 rfl rfl ?_; intro Q hret hnorm
  refine tc tbk 5 (.mk ?_)
  refine c_drawE [0, 1, 3, 0, 8, 24, 0, 64, 192, 0, 512, 1536, 0, 4096, 12288, 0, 32768, 98304, 0, 262144, 786432, 0, 2097152, 6291456, 0, 16777216, 50331648, 0, 134217728, 402653184, 0, 1073741824, 3221225472, 8589934591, 17179869183] (rl [(1, [4]), (2, [4]), (4, [4]), (5, [4]), (7, [4]), (8, [4]), (10, [4]), (11, [4]), (13, [4]), (14, [4]), (16, [4]), (17, [4]), (19, [4]), (20, [4]), (22, [4]), (23, [4]), (25, [4]), (26, [4]), (28, [4]), (29, [4]), (31, [4]), (32, [4])] []) (fun i => [4]) (fun i => true) [0, 1, 2, 3, 4, 5, 6, 7, 8, 9, 10, 11, 12, 13, 14, 15, 16, 17, 18, 19, 20, 21, 22, 23, 24, 25, 26, 27, 28, 29, 30, 31, 32, 33, 34] mixed (by kernel_rfl) ?_; intro K hK
  refine eM ?_
  refine eN ?_
  refine eF fo49_0 ?_
  refine eM ?_
  refine eN ?_
  refine eF fo49_1 ?_
  refine eM ?_
  refine eN ?_
  refine eF fo49_2 ?_
  refine eM ?_
  refine eN ?_
  refine eF fo49_3 ?_
  refine eM ?_
  refine eN ?_
  refine eF fo49_4 ?_
  refine eM ?_
  refine eN ?_
  refine eF fo49_5 ?_
  refine eM ?_
  refine eN ?_
  refine eF fo49_6 ?_
  refine eM ?_
  refine eN ?_
  refine eF fo49_7 ?_
  refine eM ?_
  refine eN ?_
  refine eF fo49_8 ?_
  refine eM ?_
  refine eN ?_
  refine eF fo49_9 ?_
  refine eM ?_
  refine eN ?_
  refine eF fo49_10 ?_
  refine eP (fun H hH => yv_buildSlice (ps := [(0, _), (1, _), (2, _), (3, _), (4, _), (5, _), (6, _), (7, _), (8, _), (9, _), (10, _)]) (rows := [[.pt 4 v12 0 0], [.pt 4 v12 0 1], [.pt 4 v12 0 2], [.pt 4 v12 0 3], [.pt 4 v12 0 4], [.pt 4 v12 0 5], [.pt 4 v12 0 6], [.pt 4 v12 0 7], [.pt 4 v12 0 8], [.pt 4 v12 0 9], [.pt 4 v12 0 10]]) rfl Tryz.underlying116 bz115 (.cons rfl (.cons rfl (.cons rfl (.cons rfl (.cons rfl (.cons rfl (.cons rfl (.cons rfl (.cons rfl (.cons rfl (.cons rfl .nil))))))))))) (by kernel_rfl) rfl rfl rfl) ?_
  refine eA ?_
  refine de_nil (hK _ ?_)
  obtain rfl := nxt_e h2
  refine w_ret (hret _ _ (hk [(1, ⟨32, 10, true, true, v5, [[int a1.Master.Entities, int a1.Master.Periods, lst 1 fI a1.Master.Weights, lst 1 (fL 1 fI) a1.Master.Methods, lst 1 (fL 1 fI) a1.Master.Costs, lst 8 GEnt.av a1.Ents, lst 8 GReceipt.av a1.Receipts, lst 9 GSale.av a1.Sales, lst 6 GTransit.av a1.Transits, int a1.Done]]⟩), (2, ⟨49, 11, true, true, v6, [[int a4.Open, int a4.Bought, int a4.Landed, int a4.Arrived, int a4.Returned, int a4.Sold, int a4.Shipped, int a4.SentBack, int a4.Scrapped, int a4.Lost, int a4.Revalued]]⟩), (3, ⟨32, 10, true, true, v7, [[int 0, int 0, .sc (.slice none 0 0), .sc (.slice none 0 0), .sc (.slice none 0 0), .sc (.slice none 0 0), .sc (.slice none 0 0), .sc (.slice none 0 0), .sc (.slice none 0 0), int 0]]⟩), (4, ⟨49, 11, true, true, v12, [[int x11.Open, int x11.Bought, int x11.Landed, int x11.Arrived, int x11.Returned, int x11.Sold, int x11.Shipped, int x11.SentBack, int x11.Scrapped, int x11.Lost, int x11.Revalued]]⟩)]) (.tmp rfl .nil) (HK.le ⟨rfl, rfl, rfl, rfl, trivial⟩) ?_)
  exact ⟨(), (), rfl, rfl, rfl⟩
  rintro y _ ⟨_, _, rfl, hc, rfl⟩
  subst hc
  refine tr tbk 1 (.mk ?_)
  refine rst rfl rfl rfl (yv_indexAddr (j := 0) rfl Tryz.underlying116 sh115 rfl rfl rfl (.list rfl)) ?_
  refine tr tbk 9 (.mk ?_)
  obtain ⟨x18, e18, h1⟩ := bind_e h1
  refine rst rfl rfl rfl (yv_callP rfl rfl (.cons rfl (.cons rfl .nil)) cal82 (CvL.refl _) (d_money_Add_c e18)) ?_
  refine tr tbk 10 (.mk ?_)
  refine nb tbk h1 fun x19 h1 => ?_
  refine tr tbk 1 (.mk ?_)
  cases x19
  replace h1 := cf h1
  refine tc tbk 6 (.mk ?_)
  refine sS ⟨49, 11, true, true, v12, [[int x18.1, int x11.Bought, int x11.Landed, int x11.Arrived, int x11.Returned, int x11.Sold, int x11.Shipped, int x11.SentBack, int x11.Scrapped, int x11.Lost, int x11.Revalued]]⟩ sh3 ?_
  refine tr tbk 3 (.mk ?_)
  refine rst rfl rfl rfl (yv_add (r := 1) rfl rfl rfl (by decide)) ?_
  refine tr tbk 5 (.mk ?_)
  refine rst rfl rfl rfl (yv_to (y := boo true) (yv_lss rfl rfl rfl) (congrArg boo (by decide))) ?_
  refine tr tbk 9 (.mk ?_)
  obtain ⟨x20, e20, h1⟩ := bind_e h1
  refine rst rfl rfl rfl (yv_ixT rfl Tryz.underlying23 sh3 rfl rfl e20) ?_
  refine tr tbk 6 (.mk ?_)
  obtain ⟨j21, h2, h1⟩ := bind_e h1
  refine rse (Out := fun y H' => (∃ (a : Unit) (k : Unit), a = j21 ∧ y = .list 1 [[.pt 4 v12 0 0], [.pt 4 v12 0 1], [.pt 4 v12 0 2], [.pt 4 v12 0 3], [.pt 4 v12 0 4], [.pt 4 v12 0 5], [.pt 4 v12 0 6], [.pt 4 v12 0 7], [.pt 4 v12 0 8], [.pt 4 v12 0 9], [.pt 4 v12 0 10]] ∧ H' = hk [(1, ⟨32, 10, true, true, v5, [[int a1.Master.Entities, int a1.Master.Periods, lst 1 fI a1.Master.Weights, lst 1 (fL 1 fI) a1.Master.Methods, lst 1 (fL 1 fI) a1.Master.Costs, lst 8 GEnt.av a1.Ents, lst 8 GReceipt.av a1.Receipts, lst 9 GSale.av a1.Sales, lst 6 GTransit.av a1.Transits, int a1.Done]]⟩), (2, ⟨49, 11, true, true, v6, [[int a4.Open, int a4.Bought, int a4.Landed, int a4.Arrived, int a4.Returned, int a4.Sold, int a4.Shipped, int a4.SentBack, int a4.Scrapped, int a4.Lost, int a4.Revalued]]⟩), (3, ⟨32, 10, true, true, v7, [[int 0, int 0, .sc (.slice none 0 0), .sc (.slice none 0 0), .sc (.slice none 0 0), .sc (.slice none 0 0), .sc (.slice none 0 0), .sc (.slice none 0 0), .sc (.slice none 0 0), int 0]]⟩), (4, ⟨49, 11, true, true, v12, [[int x18.1, int x11.Bought, int x11.Landed, int x11.Arrived, int x11.Returned, int x11.Sold, int x11.Shipped, int x11.SentBack, int x11.Scrapped, int x11.Lost, int x11.Revalued]]⟩)])) rfl rfl rfl (yl_call rfl rfl (.cons rfl .nil) cal81 ?_) ?_
  refine pcw (c := _) Tryz.func81 rfl rfl ?_; intro Q hret hnorm
  refine tc tbk 5 (.mk ?_)
  refine c_drawE [0, 1, 3, 0, 8, 24, 0, 64, 192, 0, 512, 1536, 0, 4096, 12288, 0, 32768, 98304, 0, 262144, 786432, 0, 2097152, 6291456, 0, 16777216, 50331648, 0, 134217728, 402653184, 0, 1073741824, 3221225472, 8589934591, 17179869183] (rl [(1, [4]), (2, [4]), (4, [4]), (5, [4]), (7, [4]), (8, [4]), (10, [4]), (11, [4]), (13, [4]), (14, [4]), (16, [4]), (17, [4]), (19, [4]), (20, [4]), (22, [4]), (23, [4]), (25, [4]), (26, [4]), (28, [4]), (29, [4]), (31, [4]), (32, [4])] []) (fun i => [4]) (fun i => true) [0, 1, 2, 3, 4, 5, 6, 7, 8, 9, 10, 11, 12, 13, 14, 15, 16, 17, 18, 19, 20, 21, 22, 23, 24, 25, 26, 27, 28, 29, 30, 31, 32, 33, 34] mixed (by kernel_rfl) ?_; intro K hK
  refine eM ?_
  refine eN ?_
  refine eF fo49_0 ?_
  refine eM ?_
  refine eN ?_
  refine eF fo49_1 ?_
  refine eM ?_
  refine eN ?_
  refine eF fo49_2 ?_
  refine eM ?_
  refine eN ?_
  refine eF fo49_3 ?_
  refine eM ?_
  refine eN ?_
  refine eF fo49_4 ?_
  refine eM ?_
  refine eN ?_
  refine eF fo49_5 ?_
  refine eM ?_
  refine eN ?_
  refine eF fo49_6 ?_
  refine eM ?_
  refine eN ?_
  refine eF fo49_7 ?_
  refine eM ?_
  refine eN ?_
  refine eF fo49_8 ?_
  refine eM ?_
  refine eN ?_
  refine eF fo49_9 ?_
  refine eM ?_
  refine eN ?_
  refine eF fo49_10 ?_
  refine eP (fun H hH => yv_buildSlice (ps := [(0, _), (1, _), (2, _), (3, _), (4, _), (5, _), (6, _), (7, _), (8, _), (9, _), (10, _)]) (rows := [[.pt 4 v12 0 0], [.pt 4 v12 0 1], [.pt 4 v12 0 2], [.pt 4 v12 0 3], [.pt 4 v12 0 4], [.pt 4 v12 0 5], [.pt 4 v12 0 6], [.pt 4 v12 0 7], [.pt 4 v12 0 8], [.pt 4 v12 0 9], [.pt 4 v12 0 10]]) rfl Tryz.underlying116 bz115 (.cons rfl (.cons rfl (.cons rfl (.cons rfl (.cons rfl (.cons rfl (.cons rfl (.cons rfl (.cons rfl (.cons rfl (.cons rfl .nil))))))))))) (by kernel_rfl) rfl rfl rfl) ?_
  refine eA ?_
  refine de_nil (hK _ ?_)
  obtain rfl := nxt_e h2
  refine w_ret (hret _ _ (hk [(1, ⟨32, 10, true, true, v5, [[int a1.Master.Entities, int a1.Master.Periods, lst 1 fI a1.Master.Weights, lst 1 (fL 1 fI) a1.Master.Methods, lst 1 (fL 1 fI) a1.Master.Costs, lst 8 GEnt.av a1.Ents, lst 8 GReceipt.av a1.Receipts, lst 9 GSale.av a1.Sales, lst 6 GTransit.av a1.Transits, int a1.Done]]⟩), (2, ⟨49, 11, true, true, v6, [[int a4.Open, int a4.Bought, int a4.Landed, int a4.Arrived, int a4.Returned, int a4.Sold, int a4.Shipped, int a4.SentBack, int a4.Scrapped, int a4.Lost, int a4.Revalued]]⟩), (3, ⟨32, 10, true, true, v7, [[int 0, int 0, .sc (.slice none 0 0), .sc (.slice none 0 0), .sc (.slice none 0 0), .sc (.slice none 0 0), .sc (.slice none 0 0), .sc (.slice none 0 0), .sc (.slice none 0 0), int 0]]⟩), (4, ⟨49, 11, true, true, v12, [[int x18.1, int x11.Bought, int x11.Landed, int x11.Arrived, int x11.Returned, int x11.Sold, int x11.Shipped, int x11.SentBack, int x11.Scrapped, int x11.Lost, int x11.Revalued]]⟩)]) (.tmp rfl .nil) (HK.le ⟨rfl, rfl, rfl, rfl, trivial⟩) ?_)
  exact ⟨(), (), rfl, rfl, rfl⟩
  rintro y _ ⟨_, _, rfl, hc, rfl⟩
  subst hc
  refine tr tbk 1 (.mk ?_)
  refine rst rfl rfl rfl (yv_indexAddr (j := 1) rfl Tryz.underlying116 sh115 rfl rfl rfl (.list rfl)) ?_
  refine tr tbk 9 (.mk ?_)
  obtain ⟨x22, e22, h1⟩ := bind_e h1
  refine rst rfl rfl rfl (yv_callP rfl rfl (.cons rfl (.cons rfl .nil)) cal82 (CvL.refl _) (d_money_Add_c e22)) ?_
  refine tr tbk 10 (.mk ?_)
  refine nb tbk h1 fun x23 h1 => ?_
  refine tr tbk 1 (.mk ?_)
  cases x23
  replace h1 := cf h1
  refine tc tbk 6 (.mk ?_)
  refine sS ⟨49, 11, true, true, v12, [[int x18.1, int x22.1, int x11.Landed, int x11.Arrived, int x11.Returned, int x11.Sold, int x11.Shipped, int x11.SentBack, int x11.Scrapped, int x11.Lost, int x11.Revalued]]⟩ sh3 ?_
  refine tr tbk 3 (.mk ?_)
  refine rst rfl rfl rfl (yv_add (r := 2) rfl rfl rfl (by decide)) ?_
  refine tr tbk 5 (.mk ?_)
  refine rst rfl rfl rfl (yv_to (y := boo true) (yv_lss rfl rfl rfl) (congrArg boo (by decide))) ?_
  refine tr tbk 9 (.mk ?_)
  obtain ⟨x24, e24, h1⟩ := bind_e h1
  refine rst rfl rfl rfl (yv_ixT rfl Tryz.underlying23 sh3 rfl rfl e24) ?_
  refine tr tbk 6 (.mk ?_)
  obtain ⟨j25, h2, h1⟩ := bind_e h1
  refine rse (Out := fun y H' => (∃ (a : Unit) (k : Unit), a = j25 ∧ y = .list 1 [[.pt 4 v12 0 0], [.pt 4 v12 0 1], [.pt 4 v12 0 2], [.pt 4 v12 0 3], [.pt 4 v12 0 4], [.pt 4 v12 0 5], [.pt 4 v12 0 6], [.pt 4 v12 0 7], [.pt 4 v12 0 8], [.pt 4 v12 0 9], [.pt 4 v12 0 10]] ∧ H' = hk [(1, ⟨32, 10, true, true, v5, [[int a1.Master.Entities, int a1.Master.Periods, lst 1 fI a1.Master.Weights, lst 1 (fL 1 fI) a1.Master.Methods, lst 1 (fL 1 fI) a1.Master.Costs, lst 8 GEnt.av a1.Ents, lst 8 GReceipt.av a1.Receipts, lst 9 GSale.av a1.Sales, lst 6 GTransit.av a1.Transits, int a1.Done]]⟩), (2, ⟨49, 11, true, true, v6, [[int a4.Open, int a4.Bought, int a4.Landed, int a4.Arrived, int a4.Returned, int a4.Sold, int a4.Shipped, int a4.SentBack, int a4.Scrapped, int a4.Lost, int a4.Revalued]]⟩), (3, ⟨32, 10, true, true, v7, [[int 0, int 0, .sc (.slice none 0 0), .sc (.slice none 0 0), .sc (.slice none 0 0), .sc (.slice none 0 0), .sc (.slice none 0 0), .sc (.slice none 0 0), .sc (.slice none 0 0), int 0]]⟩), (4, ⟨49, 11, true, true, v12, [[int x18.1, int x22.1, int x11.Landed, int x11.Arrived, int x11.Returned, int x11.Sold, int x11.Shipped, int x11.SentBack, int x11.Scrapped, int x11.Lost, int x11.Revalued]]⟩)])) rfl rfl rfl (yl_call rfl rfl (.cons rfl .nil) cal81 ?_) ?_
  refine pcw (c := _) Tryz.func81 rfl rfl ?_; intro Q hret hnorm
  refine tc tbk 5 (.mk ?_)
  refine c_drawE [0, 1, 3, 0, 8, 24, 0, 64, 192, 0, 512, 1536, 0, 4096, 12288, 0, 32768, 98304, 0, 262144, 786432, 0, 2097152, 6291456, 0, 16777216, 50331648, 0, 134217728, 402653184, 0, 1073741824, 3221225472, 8589934591, 17179869183] (rl [(1, [4]), (2, [4]), (4, [4]), (5, [4]), (7, [4]), (8, [4]), (10, [4]), (11, [4]), (13, [4]), (14, [4]), (16, [4]), (17, [4]), (19, [4]), (20, [4]), (22, [4]), (23, [4]), (25, [4]), (26, [4]), (28, [4]), (29, [4]), (31, [4]), (32, [4])] []) (fun i => [4]) (fun i => true) [0, 1, 2, 3, 4, 5, 6, 7, 8, 9, 10, 11, 12, 13, 14, 15, 16, 17, 18, 19, 20, 21, 22, 23, 24, 25, 26, 27, 28, 29, 30, 31, 32, 33, 34] mixed (by kernel_rfl) ?_; intro K hK
  refine eM ?_
  refine eN ?_
  refine eF fo49_0 ?_
  refine eM ?_
  refine eN ?_
  refine eF fo49_1 ?_
  refine eM ?_
  refine eN ?_
  refine eF fo49_2 ?_
  refine eM ?_
  refine eN ?_
  refine eF fo49_3 ?_
  refine eM ?_
  refine eN ?_
  refine eF fo49_4 ?_
  refine eM ?_
  refine eN ?_
  refine eF fo49_5 ?_
  refine eM ?_
  refine eN ?_
  refine eF fo49_6 ?_
  refine eM ?_
  refine eN ?_
  refine eF fo49_7 ?_
  refine eM ?_
  refine eN ?_
  refine eF fo49_8 ?_
  refine eM ?_
  refine eN ?_
  refine eF fo49_9 ?_
  refine eM ?_
  refine eN ?_
  refine eF fo49_10 ?_
  refine eP (fun H hH => yv_buildSlice (ps := [(0, _), (1, _), (2, _), (3, _), (4, _), (5, _), (6, _), (7, _), (8, _), (9, _), (10, _)]) (rows := [[.pt 4 v12 0 0], [.pt 4 v12 0 1], [.pt 4 v12 0 2], [.pt 4 v12 0 3], [.pt 4 v12 0 4], [.pt 4 v12 0 5], [.pt 4 v12 0 6], [.pt 4 v12 0 7], [.pt 4 v12 0 8], [.pt 4 v12 0 9], [.pt 4 v12 0 10]]) rfl Tryz.underlying116 bz115 (.cons rfl (.cons rfl (.cons rfl (.cons rfl (.cons rfl (.cons rfl (.cons rfl (.cons rfl (.cons rfl (.cons rfl (.cons rfl .nil))))))))))) (by kernel_rfl) rfl rfl rfl) ?_
  refine eA ?_
  refine de_nil (hK _ ?_)
  obtain rfl := nxt_e h2
  refine w_ret (hret _ _ (hk [(1, ⟨32, 10, true, true, v5, [[int a1.Master.Entities, int a1.Master.Periods, lst 1 fI a1.Master.Weights, lst 1 (fL 1 fI) a1.Master.Methods, lst 1 (fL 1 fI) a1.Master.Costs, lst 8 GEnt.av a1.Ents, lst 8 GReceipt.av a1.Receipts, lst 9 GSale.av a1.Sales, lst 6 GTransit.av a1.Transits, int a1.Done]]⟩), (2, ⟨49, 11, true, true, v6, [[int a4.Open, int a4.Bought, int a4.Landed, int a4.Arrived, int a4.Returned, int a4.Sold, int a4.Shipped, int a4.SentBack, int a4.Scrapped, int a4.Lost, int a4.Revalued]]⟩), (3, ⟨32, 10, true, true, v7, [[int 0, int 0, .sc (.slice none 0 0), .sc (.slice none 0 0), .sc (.slice none 0 0), .sc (.slice none 0 0), .sc (.slice none 0 0), .sc (.slice none 0 0), .sc (.slice none 0 0), int 0]]⟩), (4, ⟨49, 11, true, true, v12, [[int x18.1, int x22.1, int x11.Landed, int x11.Arrived, int x11.Returned, int x11.Sold, int x11.Shipped, int x11.SentBack, int x11.Scrapped, int x11.Lost, int x11.Revalued]]⟩)]) (.tmp rfl .nil) (HK.le ⟨rfl, rfl, rfl, rfl, trivial⟩) ?_)
  exact ⟨(), (), rfl, rfl, rfl⟩
  rintro y _ ⟨_, _, rfl, hc, rfl⟩
  subst hc
  refine tr tbk 1 (.mk ?_)
  refine rst rfl rfl rfl (yv_indexAddr (j := 2) rfl Tryz.underlying116 sh115 rfl rfl rfl (.list rfl)) ?_
  refine tr tbk 9 (.mk ?_)
  obtain ⟨x26, e26, h1⟩ := bind_e h1
  refine rst rfl rfl rfl (yv_callP rfl rfl (.cons rfl (.cons rfl .nil)) cal82 (CvL.refl _) (d_money_Add_c e26)) ?_
  refine tr tbk 10 (.mk ?_)
  refine nb tbk h1 fun x27 h1 => ?_
  refine tr tbk 1 (.mk ?_)
  cases x27
  replace h1 := cf h1
  refine tc tbk 6 (.mk ?_)
  refine sS ⟨49, 11, true, true, v12, [[int x18.1, int x22.1, int x26.1, int x11.Arrived, int x11.Returned, int x11.Sold, int x11.Shipped, int x11.SentBack, int x11.Scrapped, int x11.Lost, int x11.Revalued]]⟩ sh3 ?_
  refine tr tbk 3 (.mk ?_)
  refine rst rfl rfl rfl (yv_add (r := 3) rfl rfl rfl (by decide)) ?_
  refine tr tbk 5 (.mk ?_)
  refine rst rfl rfl rfl (yv_to (y := boo true) (yv_lss rfl rfl rfl) (congrArg boo (by decide))) ?_
  refine tr tbk 9 (.mk ?_)
  obtain ⟨x28, e28, h1⟩ := bind_e h1
  refine rst rfl rfl rfl (yv_ixT rfl Tryz.underlying23 sh3 rfl rfl e28) ?_
  refine tr tbk 6 (.mk ?_)
  obtain ⟨j29, h2, h1⟩ := bind_e h1
  refine rse (Out := fun y H' => (∃ (a : Unit) (k : Unit), a = j29 ∧ y = .list 1 [[.pt 4 v12 0 0], [.pt 4 v12 0 1], [.pt 4 v12 0 2], [.pt 4 v12 0 3], [.pt 4 v12 0 4], [.pt 4 v12 0 5], [.pt 4 v12 0 6], [.pt 4 v12 0 7], [.pt 4 v12 0 8], [.pt 4 v12 0 9], [.pt 4 v12 0 10]] ∧ H' = hk [(1, ⟨32, 10, true, true, v5, [[int a1.Master.Entities, int a1.Master.Periods, lst 1 fI a1.Master.Weights, lst 1 (fL 1 fI) a1.Master.Methods, lst 1 (fL 1 fI) a1.Master.Costs, lst 8 GEnt.av a1.Ents, lst 8 GReceipt.av a1.Receipts, lst 9 GSale.av a1.Sales, lst 6 GTransit.av a1.Transits, int a1.Done]]⟩), (2, ⟨49, 11, true, true, v6, [[int a4.Open, int a4.Bought, int a4.Landed, int a4.Arrived, int a4.Returned, int a4.Sold, int a4.Shipped, int a4.SentBack, int a4.Scrapped, int a4.Lost, int a4.Revalued]]⟩), (3, ⟨32, 10, true, true, v7, [[int 0, int 0, .sc (.slice none 0 0), .sc (.slice none 0 0), .sc (.slice none 0 0), .sc (.slice none 0 0), .sc (.slice none 0 0), .sc (.slice none 0 0), .sc (.slice none 0 0), int 0]]⟩), (4, ⟨49, 11, true, true, v12, [[int x18.1, int x22.1, int x26.1, int x11.Arrived, int x11.Returned, int x11.Sold, int x11.Shipped, int x11.SentBack, int x11.Scrapped, int x11.Lost, int x11.Revalued]]⟩)])) rfl rfl rfl (yl_call rfl rfl (.cons rfl .nil) cal81 ?_) ?_
  refine pcw (c := _) Tryz.func81 rfl rfl ?_; intro Q hret hnorm
  refine tc tbk 5 (.mk ?_)
  refine c_drawE [0, 1, 3, 0, 8, 24, 0, 64, 192, 0, 512, 1536, 0, 4096, 12288, 0, 32768, 98304, 0, 262144, 786432, 0, 2097152, 6291456, 0, 16777216, 50331648, 0, 134217728, 402653184, 0, 1073741824, 3221225472, 8589934591, 17179869183] (rl [(1, [4]), (2, [4]), (4, [4]), (5, [4]), (7, [4]), (8, [4]), (10, [4]), (11, [4]), (13, [4]), (14, [4]), (16, [4]), (17, [4]), (19, [4]), (20, [4]), (22, [4]), (23, [4]), (25, [4]), (26, [4]), (28, [4]), (29, [4]), (31, [4]), (32, [4])] []) (fun i => [4]) (fun i => true) [0, 1, 2, 3, 4, 5, 6, 7, 8, 9, 10, 11, 12, 13, 14, 15, 16, 17, 18, 19, 20, 21, 22, 23, 24, 25, 26, 27, 28, 29, 30, 31, 32, 33, 34] mixed (by kernel_rfl) ?_; intro K hK
  refine eM ?_
  refine eN ?_
  refine eF fo49_0 ?_
  refine eM ?_
  refine eN ?_
  refine eF fo49_1 ?_
  refine eM ?_
  refine eN ?_
  refine eF fo49_2 ?_
  refine eM ?_
  refine eN ?_
  refine eF fo49_3 ?_
  refine eM ?_
  refine eN ?_
  refine eF fo49_4 ?_
  refine eM ?_
  refine eN ?_
  refine eF fo49_5 ?_
  refine eM ?_
  refine eN ?_
  refine eF fo49_6 ?_
  refine eM ?_
  refine eN ?_
  refine eF fo49_7 ?_
  refine eM ?_
  refine eN ?_
  refine eF fo49_8 ?_
  refine eM ?_
  refine eN ?_
  refine eF fo49_9 ?_
  refine eM ?_
  refine eN ?_
  refine eF fo49_10 ?_
  refine eP (fun H hH => yv_buildSlice (ps := [(0, _), (1, _), (2, _), (3, _), (4, _), (5, _), (6, _), (7, _), (8, _), (9, _), (10, _)]) (rows := [[.pt 4 v12 0 0], [.pt 4 v12 0 1], [.pt 4 v12 0 2], [.pt 4 v12 0 3], [.pt 4 v12 0 4], [.pt 4 v12 0 5], [.pt 4 v12 0 6], [.pt 4 v12 0 7], [.pt 4 v12 0 8], [.pt 4 v12 0 9], [.pt 4 v12 0 10]]) rfl Tryz.underlying116 bz115 (.cons rfl (.cons rfl (.cons rfl (.cons rfl (.cons rfl (.cons rfl (.cons rfl (.cons rfl (.cons rfl (.cons rfl (.cons rfl .nil))))))))))) (by kernel_rfl) rfl rfl rfl) ?_
  refine eA ?_
  refine de_nil (hK _ ?_)
  obtain rfl := nxt_e h2
  refine w_ret (hret _ _ (hk [(1, ⟨32, 10, true, true, v5, [[int a1.Master.Entities, int a1.Master.Periods, lst 1 fI a1.Master.Weights, lst 1 (fL 1 fI) a1.Master.Methods, lst 1 (fL 1 fI) a1.Master.Costs, lst 8 GEnt.av a1.Ents, lst 8 GReceipt.av a1.Receipts, lst 9 GSale.av a1.Sales, lst 6 GTransit.av a1.Transits, int a1.Done]]⟩), (2, ⟨49, 11, true, true, v6, [[int a4.Open, int a4.Bought, int a4.Landed, int a4.Arrived, int a4.Returned, int a4.Sold, int a4.Shipped, int a4.SentBack, int a4.Scrapped, int a4.Lost, int a4.Revalued]]⟩), (3, ⟨32, 10, true, true, v7, [[int 0, int 0, .sc (.slice none 0 0), .sc (.slice none 0 0), .sc (.slice none 0 0), .sc (.slice none 0 0), .sc (.slice none 0 0), .sc (.slice none 0 0), .sc (.slice none 0 0), int 0]]⟩), (4, ⟨49, 11, true, true, v12, [[int x18.1, int x22.1, int x26.1, int x11.Arrived, int x11.Returned, int x11.Sold, int x11.Shipped, int x11.SentBack, int x11.Scrapped, int x11.Lost, int x11.Revalued]]⟩)]) (.tmp rfl .nil) (HK.le ⟨rfl, rfl, rfl, rfl, trivial⟩) ?_)
  exact ⟨(), (), rfl, rfl, rfl⟩
  rintro y _ ⟨_, _, rfl, hc, rfl⟩
  subst hc
  refine tr tbk 1 (.mk ?_)
  refine rst rfl rfl rfl (yv_indexAddr (j := 3) rfl Tryz.underlying116 sh115 rfl rfl rfl (.list rfl)) ?_
  refine tr tbk 9 (.mk ?_)
  obtain ⟨x30, e30, h1⟩ := bind_e h1
  refine rst rfl rfl rfl (yv_callP rfl rfl (.cons rfl (.cons rfl .nil)) cal82 (CvL.refl _) (d_money_Add_c e30)) ?_
  refine tr tbk 10 (.mk ?_)
  refine nb tbk h1 fun x31 h1 => ?_
  refine tr tbk 1 (.mk ?_)
  cases x31
  replace h1 := cf h1
  refine tc tbk 6 (.mk ?_)
  refine sS ⟨49, 11, true, true, v12, [[int x18.1, int x22.1, int x26.1, int x30.1, int x11.Returned, int x11.Sold, int x11.Shipped, int x11.SentBack, int x11.Scrapped, int x11.Lost, int x11.Revalued]]⟩ sh3 ?_
  refine tr tbk 3 (.mk ?_)
  refine rst rfl rfl rfl (yv_add (r := 4) rfl rfl rfl (by decide)) ?_
  refine tr tbk 5 (.mk ?_)
  refine rst rfl rfl rfl (yv_to (y := boo true) (yv_lss rfl rfl rfl) (congrArg boo (by decide))) ?_
  refine tr tbk 9 (.mk ?_)
  obtain ⟨x32, e32, h1⟩ := bind_e h1
  refine rst rfl rfl rfl (yv_ixT rfl Tryz.underlying23 sh3 rfl rfl e32) ?_
  refine tr tbk 6 (.mk ?_)
  obtain ⟨j33, h2, h1⟩ := bind_e h1
  refine rse (Out := fun y H' => (∃ (a : Unit) (k : Unit), a = j33 ∧ y = .list 1 [[.pt 4 v12 0 0], [.pt 4 v12 0 1], [.pt 4 v12 0 2], [.pt 4 v12 0 3], [.pt 4 v12 0 4], [.pt 4 v12 0 5], [.pt 4 v12 0 6], [.pt 4 v12 0 7], [.pt 4 v12 0 8], [.pt 4 v12 0 9], [.pt 4 v12 0 10]] ∧ H' = hk [(1, ⟨32, 10, true, true, v5, [[int a1.Master.Entities, int a1.Master.Periods, lst 1 fI a1.Master.Weights, lst 1 (fL 1 fI) a1.Master.Methods, lst 1 (fL 1 fI) a1.Master.Costs, lst 8 GEnt.av a1.Ents, lst 8 GReceipt.av a1.Receipts, lst 9 GSale.av a1.Sales, lst 6 GTransit.av a1.Transits, int a1.Done]]⟩), (2, ⟨49, 11, true, true, v6, [[int a4.Open, int a4.Bought, int a4.Landed, int a4.Arrived, int a4.Returned, int a4.Sold, int a4.Shipped, int a4.SentBack, int a4.Scrapped, int a4.Lost, int a4.Revalued]]⟩), (3, ⟨32, 10, true, true, v7, [[int 0, int 0, .sc (.slice none 0 0), .sc (.slice none 0 0), .sc (.slice none 0 0), .sc (.slice none 0 0), .sc (.slice none 0 0), .sc (.slice none 0 0), .sc (.slice none 0 0), int 0]]⟩), (4, ⟨49, 11, true, true, v12, [[int x18.1, int x22.1, int x26.1, int x30.1, int x11.Returned, int x11.Sold, int x11.Shipped, int x11.SentBack, int x11.Scrapped, int x11.Lost, int x11.Revalued]]⟩)])) rfl rfl rfl (yl_call rfl rfl (.cons rfl .nil) cal81 ?_) ?_
  refine pcw (c := _) Tryz.func81 rfl rfl ?_; intro Q hret hnorm
  refine tc tbk 5 (.mk ?_)
  refine c_drawE [0, 1, 3, 0, 8, 24, 0, 64, 192, 0, 512, 1536, 0, 4096, 12288, 0, 32768, 98304, 0, 262144, 786432, 0, 2097152, 6291456, 0, 16777216, 50331648, 0, 134217728, 402653184, 0, 1073741824, 3221225472, 8589934591, 17179869183] (rl [(1, [4]), (2, [4]), (4, [4]), (5, [4]), (7, [4]), (8, [4]), (10, [4]), (11, [4]), (13, [4]), (14, [4]), (16, [4]), (17, [4]), (19, [4]), (20, [4]), (22, [4]), (23, [4]), (25, [4]), (26, [4]), (28, [4]), (29, [4]), (31, [4]), (32, [4])] []) (fun i => [4]) (fun i => true) [0, 1, 2, 3, 4, 5, 6, 7, 8, 9, 10, 11, 12, 13, 14, 15, 16, 17, 18, 19, 20, 21, 22, 23, 24, 25, 26, 27, 28, 29, 30, 31, 32, 33, 34] mixed (by kernel_rfl) ?_; intro K hK
  refine eM ?_
  refine eN ?_
  refine eF fo49_0 ?_
  refine eM ?_
  refine eN ?_
  refine eF fo49_1 ?_
  refine eM ?_
  refine eN ?_
  refine eF fo49_2 ?_
  refine eM ?_
  refine eN ?_
  refine eF fo49_3 ?_
  refine eM ?_
  refine eN ?_
  refine eF fo49_4 ?_
  refine eM ?_
  refine eN ?_
  refine eF fo49_5 ?_
  refine eM ?_
  refine eN ?_
  refine eF fo49_6 ?_
  refine eM ?_
  refine eN ?_
  refine eF fo49_7 ?_
  refine eM ?_
  refine eN ?_
  refine eF fo49_8 ?_
  refine eM ?_
  refine eN ?_
  refine eF fo49_9 ?_
  refine eM ?_
  refine eN ?_
  refine eF fo49_10 ?_
  refine eP (fun H hH => yv_buildSlice (ps := [(0, _), (1, _), (2, _), (3, _), (4, _), (5, _), (6, _), (7, _), (8, _), (9, _), (10, _)]) (rows := [[.pt 4 v12 0 0], [.pt 4 v12 0 1], [.pt 4 v12 0 2], [.pt 4 v12 0 3], [.pt 4 v12 0 4], [.pt 4 v12 0 5], [.pt 4 v12 0 6], [.pt 4 v12 0 7], [.pt 4 v12 0 8], [.pt 4 v12 0 9], [.pt 4 v12 0 10]]) rfl Tryz.underlying116 bz115 (.cons rfl (.cons rfl (.cons rfl (.cons rfl (.cons rfl (.cons rfl (.cons rfl (.cons rfl (.cons rfl (.cons rfl (.cons rfl .nil))))))))))) (by kernel_rfl) rfl rfl rfl) ?_
  refine eA ?_
  refine de_nil (hK _ ?_)
  obtain rfl := nxt_e h2
  refine w_ret (hret _ _ (hk [(1, ⟨32, 10, true, true, v5, [[int a1.Master.Entities, int a1.Master.Periods, lst 1 fI a1.Master.Weights, lst 1 (fL 1 fI) a1.Master.Methods, lst 1 (fL 1 fI) a1.Master.Costs, lst 8 GEnt.av a1.Ents, lst 8 GReceipt.av a1.Receipts, lst 9 GSale.av a1.Sales, lst 6 GTransit.av a1.Transits, int a1.Done]]⟩), (2, ⟨49, 11, true, true, v6, [[int a4.Open, int a4.Bought, int a4.Landed, int a4.Arrived, int a4.Returned, int a4.Sold, int a4.Shipped, int a4.SentBack, int a4.Scrapped, int a4.Lost, int a4.Revalued]]⟩), (3, ⟨32, 10, true, true, v7, [[int 0, int 0, .sc (.slice none 0 0), .sc (.slice none 0 0), .sc (.slice none 0 0), .sc (.slice none 0 0), .sc (.slice none 0 0), .sc (.slice none 0 0), .sc (.slice none 0 0), int 0]]⟩), (4, ⟨49, 11, true, true, v12, [[int x18.1, int x22.1, int x26.1, int x30.1, int x11.Returned, int x11.Sold, int x11.Shipped, int x11.SentBack, int x11.Scrapped, int x11.Lost, int x11.Revalued]]⟩)]) (.tmp rfl .nil) (HK.le ⟨rfl, rfl, rfl, rfl, trivial⟩) ?_)
  exact ⟨(), (), rfl, rfl, rfl⟩
  rintro y _ ⟨_, _, rfl, hc, rfl⟩
  subst hc
  refine tr tbk 1 (.mk ?_)
  refine rst rfl rfl rfl (yv_indexAddr (j := 4) rfl Tryz.underlying116 sh115 rfl rfl rfl (.list rfl)) ?_
  refine tr tbk 9 (.mk ?_)
  obtain ⟨x34, e34, h1⟩ := bind_e h1
  refine rst rfl rfl rfl (yv_callP rfl rfl (.cons rfl (.cons rfl .nil)) cal82 (CvL.refl _) (d_money_Add_c e34)) ?_
  refine tr tbk 10 (.mk ?_)
  refine nb tbk h1 fun x35 h1 => ?_
  refine tr tbk 1 (.mk ?_)
  cases x35
  replace h1 := cf h1
  refine tc tbk 6 (.mk ?_)
  refine sS ⟨49, 11, true, true, v12, [[int x18.1, int x22.1, int x26.1, int x30.1, int x34.1, int x11.Sold, int x11.Shipped, int x11.SentBack, int x11.Scrapped, int x11.Lost, int x11.Revalued]]⟩ sh3 ?_
  refine tr tbk 3 (.mk ?_)
  refine rst rfl rfl rfl (yv_add (r := 5) rfl rfl rfl (by decide)) ?_
  refine tr tbk 5 (.mk ?_)
  refine rst rfl rfl rfl (yv_to (y := boo true) (yv_lss rfl rfl rfl) (congrArg boo (by decide))) ?_
  refine tr tbk 9 (.mk ?_)
  obtain ⟨x36, e36, h1⟩ := bind_e h1
  refine rst rfl rfl rfl (yv_ixT rfl Tryz.underlying23 sh3 rfl rfl e36) ?_
  refine tr tbk 6 (.mk ?_)
  obtain ⟨j37, h2, h1⟩ := bind_e h1
  refine rse (Out := fun y H' => (∃ (a : Unit) (k : Unit), a = j37 ∧ y = .list 1 [[.pt 4 v12 0 0], [.pt 4 v12 0 1], [.pt 4 v12 0 2], [.pt 4 v12 0 3], [.pt 4 v12 0 4], [.pt 4 v12 0 5], [.pt 4 v12 0 6], [.pt 4 v12 0 7], [.pt 4 v12 0 8], [.pt 4 v12 0 9], [.pt 4 v12 0 10]] ∧ H' = hk [(1, ⟨32, 10, true, true, v5, [[int a1.Master.Entities, int a1.Master.Periods, lst 1 fI a1.Master.Weights, lst 1 (fL 1 fI) a1.Master.Methods, lst 1 (fL 1 fI) a1.Master.Costs, lst 8 GEnt.av a1.Ents, lst 8 GReceipt.av a1.Receipts, lst 9 GSale.av a1.Sales, lst 6 GTransit.av a1.Transits, int a1.Done]]⟩), (2, ⟨49, 11, true, true, v6, [[int a4.Open, int a4.Bought, int a4.Landed, int a4.Arrived, int a4.Returned, int a4.Sold, int a4.Shipped, int a4.SentBack, int a4.Scrapped, int a4.Lost, int a4.Revalued]]⟩), (3, ⟨32, 10, true, true, v7, [[int 0, int 0, .sc (.slice none 0 0), .sc (.slice none 0 0), .sc (.slice none 0 0), .sc (.slice none 0 0), .sc (.slice none 0 0), .sc (.slice none 0 0), .sc (.slice none 0 0), int 0]]⟩), (4, ⟨49, 11, true, true, v12, [[int x18.1, int x22.1, int x26.1, int x30.1, int x34.1, int x11.Sold, int x11.Shipped, int x11.SentBack, int x11.Scrapped, int x11.Lost, int x11.Revalued]]⟩)])) rfl rfl rfl (yl_call rfl rfl (.cons rfl .nil) cal81 ?_) ?_
  refine pcw (c := _) Tryz.func81 rfl rfl ?_; intro Q hret hnorm
  refine tc tbk 5 (.mk ?_)
  refine c_drawE [0, 1, 3, 0, 8, 24, 0, 64, 192, 0, 512, 1536, 0, 4096, 12288, 0, 32768, 98304, 0, 262144, 786432, 0, 2097152, 6291456, 0, 16777216, 50331648, 0, 134217728, 402653184, 0, 1073741824, 3221225472, 8589934591, 17179869183] (rl [(1, [4]), (2, [4]), (4, [4]), (5, [4]), (7, [4]), (8, [4]), (10, [4]), (11, [4]), (13, [4]), (14, [4]), (16, [4]), (17, [4]), (19, [4]), (20, [4]), (22, [4]), (23, [4]), (25, [4]), (26, [4]), (28, [4]), (29, [4]), (31, [4]), (32, [4])] []) (fun i => [4]) (fun i => true) [0, 1, 2, 3, 4, 5, 6, 7, 8, 9, 10, 11, 12, 13, 14, 15, 16, 17, 18, 19, 20, 21, 22, 23, 24, 25, 26, 27, 28, 29, 30, 31, 32, 33, 34] mixed (by kernel_rfl) ?_; intro K hK
  refine eM ?_
  refine eN ?_
  refine eF fo49_0 ?_
  refine eM ?_
  refine eN ?_
  refine eF fo49_1 ?_
  refine eM ?_
  refine eN ?_
  refine eF fo49_2 ?_
  refine eM ?_
  refine eN ?_
  refine eF fo49_3 ?_
  refine eM ?_
  refine eN ?_
  refine eF fo49_4 ?_
  refine eM ?_
  refine eN ?_
  refine eF fo49_5 ?_
  refine eM ?_
  refine eN ?_
  refine eF fo49_6 ?_
  refine eM ?_
  refine eN ?_
  refine eF fo49_7 ?_
  refine eM ?_
  refine eN ?_
  refine eF fo49_8 ?_
  refine eM ?_
  refine eN ?_
  refine eF fo49_9 ?_
  refine eM ?_
  refine eN ?_
  refine eF fo49_10 ?_
  refine eP (fun H hH => yv_buildSlice (ps := [(0, _), (1, _), (2, _), (3, _), (4, _), (5, _), (6, _), (7, _), (8, _), (9, _), (10, _)]) (rows := [[.pt 4 v12 0 0], [.pt 4 v12 0 1], [.pt 4 v12 0 2], [.pt 4 v12 0 3], [.pt 4 v12 0 4], [.pt 4 v12 0 5], [.pt 4 v12 0 6], [.pt 4 v12 0 7], [.pt 4 v12 0 8], [.pt 4 v12 0 9], [.pt 4 v12 0 10]]) rfl Tryz.underlying116 bz115 (.cons rfl (.cons rfl (.cons rfl (.cons rfl (.cons rfl (.cons rfl (.cons rfl (.cons rfl (.cons rfl (.cons rfl (.cons rfl .nil))))))))))) (by kernel_rfl) rfl rfl rfl) ?_
  refine eA ?_
  refine de_nil (hK _ ?_)
  obtain rfl := nxt_e h2
  refine w_ret (hret _ _ (hk [(1, ⟨32, 10, true, true, v5, [[int a1.Master.Entities, int a1.Master.Periods, lst 1 fI a1.Master.Weights, lst 1 (fL 1 fI) a1.Master.Methods, lst 1 (fL 1 fI) a1.Master.Costs, lst 8 GEnt.av a1.Ents, lst 8 GReceipt.av a1.Receipts, lst 9 GSale.av a1.Sales, lst 6 GTransit.av a1.Transits, int a1.Done]]⟩), (2, ⟨49, 11, true, true, v6, [[int a4.Open, int a4.Bought, int a4.Landed, int a4.Arrived, int a4.Returned, int a4.Sold, int a4.Shipped, int a4.SentBack, int a4.Scrapped, int a4.Lost, int a4.Revalued]]⟩), (3, ⟨32, 10, true, true, v7, [[int 0, int 0, .sc (.slice none 0 0), .sc (.slice none 0 0), .sc (.slice none 0 0), .sc (.slice none 0 0), .sc (.slice none 0 0), .sc (.slice none 0 0), .sc (.slice none 0 0), int 0]]⟩), (4, ⟨49, 11, true, true, v12, [[int x18.1, int x22.1, int x26.1, int x30.1, int x34.1, int x11.Sold, int x11.Shipped, int x11.SentBack, int x11.Scrapped, int x11.Lost, int x11.Revalued]]⟩)]) (.tmp rfl .nil) (HK.le ⟨rfl, rfl, rfl, rfl, trivial⟩) ?_)
  exact ⟨(), (), rfl, rfl, rfl⟩
  rintro y _ ⟨_, _, rfl, hc, rfl⟩
  subst hc
  refine tr tbk 1 (.mk ?_)
  refine rst rfl rfl rfl (yv_indexAddr (j := 5) rfl Tryz.underlying116 sh115 rfl rfl rfl (.list rfl)) ?_
  refine tr tbk 9 (.mk ?_)
  obtain ⟨x38, e38, h1⟩ := bind_e h1
  refine rst rfl rfl rfl (yv_callP rfl rfl (.cons rfl (.cons rfl .nil)) cal82 (CvL.refl _) (d_money_Add_c e38)) ?_
  refine tr tbk 10 (.mk ?_)
  refine nb tbk h1 fun x39 h1 => ?_
  refine tr tbk 1 (.mk ?_)
  cases x39
  replace h1 := cf h1
  refine tc tbk 6 (.mk ?_)
  refine sS ⟨49, 11, true, true, v12, [[int x18.1, int x22.1, int x26.1, int x30.1, int x34.1, int x38.1, int x11.Shipped, int x11.SentBack, int x11.Scrapped, int x11.Lost, int x11.Revalued]]⟩ sh3 ?_
  refine tr tbk 3 (.mk ?_)
  refine rst rfl rfl rfl (yv_add (r := 6) rfl rfl rfl (by decide)) ?_
  refine tr tbk 5 (.mk ?_)
  refine rst rfl rfl rfl (yv_to (y := boo true) (yv_lss rfl rfl rfl) (congrArg boo (by decide))) ?_
  refine tr tbk 9 (.mk ?_)
  obtain ⟨x40, e40, h1⟩ := bind_e h1
  refine rst rfl rfl rfl (yv_ixT rfl Tryz.underlying23 sh3 rfl rfl e40) ?_
  refine tr tbk 6 (.mk ?_)
  obtain ⟨j41, h2, h1⟩ := bind_e h1
  refine rse (Out := fun y H' => (∃ (a : Unit) (k : Unit), a = j41 ∧ y = .list 1 [[.pt 4 v12 0 0], [.pt 4 v12 0 1], [.pt 4 v12 0 2], [.pt 4 v12 0 3], [.pt 4 v12 0 4], [.pt 4 v12 0 5], [.pt 4 v12 0 6], [.pt 4 v12 0 7], [.pt 4 v12 0 8], [.pt 4 v12 0 9], [.pt 4 v12 0 10]] ∧ H' = hk [(1, ⟨32, 10, true, true, v5, [[int a1.Master.Entities, int a1.Master.Periods, lst 1 fI a1.Master.Weights, lst 1 (fL 1 fI) a1.Master.Methods, lst 1 (fL 1 fI) a1.Master.Costs, lst 8 GEnt.av a1.Ents, lst 8 GReceipt.av a1.Receipts, lst 9 GSale.av a1.Sales, lst 6 GTransit.av a1.Transits, int a1.Done]]⟩), (2, ⟨49, 11, true, true, v6, [[int a4.Open, int a4.Bought, int a4.Landed, int a4.Arrived, int a4.Returned, int a4.Sold, int a4.Shipped, int a4.SentBack, int a4.Scrapped, int a4.Lost, int a4.Revalued]]⟩), (3, ⟨32, 10, true, true, v7, [[int 0, int 0, .sc (.slice none 0 0), .sc (.slice none 0 0), .sc (.slice none 0 0), .sc (.slice none 0 0), .sc (.slice none 0 0), .sc (.slice none 0 0), .sc (.slice none 0 0), int 0]]⟩), (4, ⟨49, 11, true, true, v12, [[int x18.1, int x22.1, int x26.1, int x30.1, int x34.1, int x38.1, int x11.Shipped, int x11.SentBack, int x11.Scrapped, int x11.Lost, int x11.Revalued]]⟩)])) rfl rfl rfl (yl_call rfl rfl (.cons rfl .nil) cal81 ?_) ?_
  refine pcw (c := _) Tryz.func81 rfl rfl ?_; intro Q hret hnorm
  refine tc tbk 5 (.mk ?_)
  refine c_drawE [0, 1, 3, 0, 8, 24, 0, 64, 192, 0, 512, 1536, 0, 4096, 12288, 0, 32768, 98304, 0, 262144, 786432, 0, 2097152, 6291456, 0, 16777216, 50331648, 0, 134217728, 402653184, 0, 1073741824, 3221225472, 8589934591, 17179869183] (rl [(1, [4]), (2, [4]), (4, [4]), (5, [4]), (7, [4]), (8, [4]), (10, [4]), (11, [4]), (13, [4]), (14, [4]), (16, [4]), (17, [4]), (19, [4]), (20, [4]), (22, [4]), (23, [4]), (25, [4]), (26, [4]), (28, [4]), (29, [4]), (31, [4]), (32, [4])] []) (fun i => [4]) (fun i => true) [0, 1, 2, 3, 4, 5, 6, 7, 8, 9, 10, 11, 12, 13, 14, 15, 16, 17, 18, 19, 20, 21, 22, 23, 24, 25, 26, 27, 28, 29, 30, 31, 32, 33, 34] mixed (by kernel_rfl) ?_; intro K hK
  refine eM ?_
  refine eN ?_
  refine eF fo49_0 ?_
  refine eM ?_
  refine eN ?_
  refine eF fo49_1 ?_
  refine eM ?_
  refine eN ?_
  refine eF fo49_2 ?_
  refine eM ?_
  refine eN ?_
  refine eF fo49_3 ?_
  refine eM ?_
  refine eN ?_
  refine eF fo49_4 ?_
  refine eM ?_
  refine eN ?_
  refine eF fo49_5 ?_
  refine eM ?_
  refine eN ?_
  refine eF fo49_6 ?_
  refine eM ?_
  refine eN ?_
  refine eF fo49_7 ?_
  refine eM ?_
  refine eN ?_
  refine eF fo49_8 ?_
  refine eM ?_
  refine eN ?_
  refine eF fo49_9 ?_
  refine eM ?_
  refine eN ?_
  refine eF fo49_10 ?_
  refine eP (fun H hH => yv_buildSlice (ps := [(0, _), (1, _), (2, _), (3, _), (4, _), (5, _), (6, _), (7, _), (8, _), (9, _), (10, _)]) (rows := [[.pt 4 v12 0 0], [.pt 4 v12 0 1], [.pt 4 v12 0 2], [.pt 4 v12 0 3], [.pt 4 v12 0 4], [.pt 4 v12 0 5], [.pt 4 v12 0 6], [.pt 4 v12 0 7], [.pt 4 v12 0 8], [.pt 4 v12 0 9], [.pt 4 v12 0 10]]) rfl Tryz.underlying116 bz115 (.cons rfl (.cons rfl (.cons rfl (.cons rfl (.cons rfl (.cons rfl (.cons rfl (.cons rfl (.cons rfl (.cons rfl (.cons rfl .nil))))))))))) (by kernel_rfl) rfl rfl rfl) ?_
  refine eA ?_
  refine de_nil (hK _ ?_)
  obtain rfl := nxt_e h2
  refine w_ret (hret _ _ (hk [(1, ⟨32, 10, true, true, v5, [[int a1.Master.Entities, int a1.Master.Periods, lst 1 fI a1.Master.Weights, lst 1 (fL 1 fI) a1.Master.Methods, lst 1 (fL 1 fI) a1.Master.Costs, lst 8 GEnt.av a1.Ents, lst 8 GReceipt.av a1.Receipts, lst 9 GSale.av a1.Sales, lst 6 GTransit.av a1.Transits, int a1.Done]]⟩), (2, ⟨49, 11, true, true, v6, [[int a4.Open, int a4.Bought, int a4.Landed, int a4.Arrived, int a4.Returned, int a4.Sold, int a4.Shipped, int a4.SentBack, int a4.Scrapped, int a4.Lost, int a4.Revalued]]⟩), (3, ⟨32, 10, true, true, v7, [[int 0, int 0, .sc (.slice none 0 0), .sc (.slice none 0 0), .sc (.slice none 0 0), .sc (.slice none 0 0), .sc (.slice none 0 0), .sc (.slice none 0 0), .sc (.slice none 0 0), int 0]]⟩), (4, ⟨49, 11, true, true, v12, [[int x18.1, int x22.1, int x26.1, int x30.1, int x34.1, int x38.1, int x11.Shipped, int x11.SentBack, int x11.Scrapped, int x11.Lost, int x11.Revalued]]⟩)]) (.tmp rfl .nil) (HK.le ⟨rfl, rfl, rfl, rfl, trivial⟩) ?_)
  exact ⟨(), (), rfl, rfl, rfl⟩
  rintro y _ ⟨_, _, rfl, hc, rfl⟩
  subst hc
  refine tr tbk 1 (.mk ?_)
  refine rst rfl rfl rfl (yv_indexAddr (j := 6) rfl Tryz.underlying116 sh115 rfl rfl rfl (.list rfl)) ?_
  refine tr tbk 9 (.mk ?_)
  obtain ⟨x42, e42, h1⟩ := bind_e h1
  refine rst rfl rfl rfl (yv_callP rfl rfl (.cons rfl (.cons rfl .nil)) cal82 (CvL.refl _) (d_money_Add_c e42)) ?_
  refine tr tbk 10 (.mk ?_)
  refine nb tbk h1 fun x43 h1 => ?_
  refine tr tbk 1 (.mk ?_)
  cases x43
  replace h1 := cf h1
  refine tc tbk 6 (.mk ?_)
  refine sS ⟨49, 11, true, true, v12, [[int x18.1, int x22.1, int x26.1, int x30.1, int x34.1, int x38.1, int x42.1, int x11.SentBack, int x11.Scrapped, int x11.Lost, int x11.Revalued]]⟩ sh3 ?_
  refine tr tbk 3 (.mk ?_)
  refine rst rfl rfl rfl (yv_add (r := 7) rfl rfl rfl (by decide)) ?_
  refine tr tbk 5 (.mk ?_)
  refine rst rfl rfl rfl (yv_to (y := boo true) (yv_lss rfl rfl rfl) (congrArg boo (by decide))) ?_
  refine tr tbk 9 (.mk ?_)
  obtain ⟨x44, e44, h1⟩ := bind_e h1
  refine rst rfl rfl rfl (yv_ixT rfl Tryz.underlying23 sh3 rfl rfl e44) ?_
  refine tr tbk 6 (.mk ?_)
  obtain ⟨j45, h2, h1⟩ := bind_e h1
  refine rse (Out := fun y H' => (∃ (a : Unit) (k : Unit), a = j45 ∧ y = .list 1 [[.pt 4 v12 0 0], [.pt 4 v12 0 1], [.pt 4 v12 0 2], [.pt 4 v12 0 3], [.pt 4 v12 0 4], [.pt 4 v12 0 5], [.pt 4 v12 0 6], [.pt 4 v12 0 7], [.pt 4 v12 0 8], [.pt 4 v12 0 9], [.pt 4 v12 0 10]] ∧ H' = hk [(1, ⟨32, 10, true, true, v5, [[int a1.Master.Entities, int a1.Master.Periods, lst 1 fI a1.Master.Weights, lst 1 (fL 1 fI) a1.Master.Methods, lst 1 (fL 1 fI) a1.Master.Costs, lst 8 GEnt.av a1.Ents, lst 8 GReceipt.av a1.Receipts, lst 9 GSale.av a1.Sales, lst 6 GTransit.av a1.Transits, int a1.Done]]⟩), (2, ⟨49, 11, true, true, v6, [[int a4.Open, int a4.Bought, int a4.Landed, int a4.Arrived, int a4.Returned, int a4.Sold, int a4.Shipped, int a4.SentBack, int a4.Scrapped, int a4.Lost, int a4.Revalued]]⟩), (3, ⟨32, 10, true, true, v7, [[int 0, int 0, .sc (.slice none 0 0), .sc (.slice none 0 0), .sc (.slice none 0 0), .sc (.slice none 0 0), .sc (.slice none 0 0), .sc (.slice none 0 0), .sc (.slice none 0 0), int 0]]⟩), (4, ⟨49, 11, true, true, v12, [[int x18.1, int x22.1, int x26.1, int x30.1, int x34.1, int x38.1, int x42.1, int x11.SentBack, int x11.Scrapped, int x11.Lost, int x11.Revalued]]⟩)])) rfl rfl rfl (yl_call rfl rfl (.cons rfl .nil) cal81 ?_) ?_
  refine pcw (c := _) Tryz.func81 rfl rfl ?_; intro Q hret hnorm
  refine tc tbk 5 (.mk ?_)
  refine c_drawE [0, 1, 3, 0, 8, 24, 0, 64, 192, 0, 512, 1536, 0, 4096, 12288, 0, 32768, 98304, 0, 262144, 786432, 0, 2097152, 6291456, 0, 16777216, 50331648, 0, 134217728, 402653184, 0, 1073741824, 3221225472, 8589934591, 17179869183] (rl [(1, [4]), (2, [4]), (4, [4]), (5, [4]), (7, [4]), (8, [4]), (10, [4]), (11, [4]), (13, [4]), (14, [4]), (16, [4]), (17, [4]), (19, [4]), (20, [4]), (22, [4]), (23, [4]), (25, [4]), (26, [4]), (28, [4]), (29, [4]), (31, [4]), (32, [4])] []) (fun i => [4]) (fun i => true) [0, 1, 2, 3, 4, 5, 6, 7, 8, 9, 10, 11, 12, 13, 14, 15, 16, 17, 18, 19, 20, 21, 22, 23, 24, 25, 26, 27, 28, 29, 30, 31, 32, 33, 34] mixed (by kernel_rfl) ?_; intro K hK
  refine eM ?_
  refine eN ?_
  refine eF fo49_0 ?_
  refine eM ?_
  refine eN ?_
  refine eF fo49_1 ?_
  refine eM ?_
  refine eN ?_
  refine eF fo49_2 ?_
  refine eM ?_
  refine eN ?_
  refine eF fo49_3 ?_
  refine eM ?_
  refine eN ?_
  refine eF fo49_4 ?_
  refine eM ?_
  refine eN ?_
  refine eF fo49_5 ?_
  refine eM ?_
  refine eN ?_
  refine eF fo49_6 ?_
  refine eM ?_
  refine eN ?_
  refine eF fo49_7 ?_
  refine eM ?_
  refine eN ?_
  refine eF fo49_8 ?_
  refine eM ?_
  refine eN ?_
  refine eF fo49_9 ?_
  refine eM ?_
  refine eN ?_
  refine eF fo49_10 ?_
  refine eP (fun H hH => yv_buildSlice (ps := [(0, _), (1, _), (2, _), (3, _), (4, _), (5, _), (6, _), (7, _), (8, _), (9, _), (10, _)]) (rows := [[.pt 4 v12 0 0], [.pt 4 v12 0 1], [.pt 4 v12 0 2], [.pt 4 v12 0 3], [.pt 4 v12 0 4], [.pt 4 v12 0 5], [.pt 4 v12 0 6], [.pt 4 v12 0 7], [.pt 4 v12 0 8], [.pt 4 v12 0 9], [.pt 4 v12 0 10]]) rfl Tryz.underlying116 bz115 (.cons rfl (.cons rfl (.cons rfl (.cons rfl (.cons rfl (.cons rfl (.cons rfl (.cons rfl (.cons rfl (.cons rfl (.cons rfl .nil))))))))))) (by kernel_rfl) rfl rfl rfl) ?_
  refine eA ?_
  refine de_nil (hK _ ?_)
  obtain rfl := nxt_e h2
  refine w_ret (hret _ _ (hk [(1, ⟨32, 10, true, true, v5, [[int a1.Master.Entities, int a1.Master.Periods, lst 1 fI a1.Master.Weights, lst 1 (fL 1 fI) a1.Master.Methods, lst 1 (fL 1 fI) a1.Master.Costs, lst 8 GEnt.av a1.Ents, lst 8 GReceipt.av a1.Receipts, lst 9 GSale.av a1.Sales, lst 6 GTransit.av a1.Transits, int a1.Done]]⟩), (2, ⟨49, 11, true, true, v6, [[int a4.Open, int a4.Bought, int a4.Landed, int a4.Arrived, int a4.Returned, int a4.Sold, int a4.Shipped, int a4.SentBack, int a4.Scrapped, int a4.Lost, int a4.Revalued]]⟩), (3, ⟨32, 10, true, true, v7, [[int 0, int 0, .sc (.slice none 0 0), .sc (.slice none 0 0), .sc (.slice none 0 0), .sc (.slice none 0 0), .sc (.slice none 0 0), .sc (.slice none 0 0), .sc (.slice none 0 0), int 0]]⟩), (4, ⟨49, 11, true, true, v12, [[int x18.1, int x22.1, int x26.1, int x30.1, int x34.1, int x38.1, int x42.1, int x11.SentBack, int x11.Scrapped, int x11.Lost, int x11.Revalued]]⟩)]) (.tmp rfl .nil) (HK.le ⟨rfl, rfl, rfl, rfl, trivial⟩) ?_)
  exact ⟨(), (), rfl, rfl, rfl⟩
  rintro y _ ⟨_, _, rfl, hc, rfl⟩
  subst hc
  refine tr tbk 1 (.mk ?_)
  refine rst rfl rfl rfl (yv_indexAddr (j := 7) rfl Tryz.underlying116 sh115 rfl rfl rfl (.list rfl)) ?_
  refine tr tbk 9 (.mk ?_)
  obtain ⟨x46, e46, h1⟩ := bind_e h1
  refine rst rfl rfl rfl (yv_callP rfl rfl (.cons rfl (.cons rfl .nil)) cal82 (CvL.refl _) (d_money_Add_c e46)) ?_
  refine tr tbk 10 (.mk ?_)
  refine nb tbk h1 fun x47 h1 => ?_
  refine tr tbk 1 (.mk ?_)
  cases x47
  replace h1 := cf h1
  refine tc tbk 6 (.mk ?_)
  refine sS ⟨49, 11, true, true, v12, [[int x18.1, int x22.1, int x26.1, int x30.1, int x34.1, int x38.1, int x42.1, int x46.1, int x11.Scrapped, int x11.Lost, int x11.Revalued]]⟩ sh3 ?_
  refine tr tbk 3 (.mk ?_)
  refine rst rfl rfl rfl (yv_add (r := 8) rfl rfl rfl (by decide)) ?_
  refine tr tbk 5 (.mk ?_)
  refine rst rfl rfl rfl (yv_to (y := boo true) (yv_lss rfl rfl rfl) (congrArg boo (by decide))) ?_
  refine tr tbk 9 (.mk ?_)
  obtain ⟨x48, e48, h1⟩ := bind_e h1
  refine rst rfl rfl rfl (yv_ixT rfl Tryz.underlying23 sh3 rfl rfl e48) ?_
  refine tr tbk 6 (.mk ?_)
  obtain ⟨j49, h2, h1⟩ := bind_e h1
  refine rse (Out := fun y H' => (∃ (a : Unit) (k : Unit), a = j49 ∧ y = .list 1 [[.pt 4 v12 0 0], [.pt 4 v12 0 1], [.pt 4 v12 0 2], [.pt 4 v12 0 3], [.pt 4 v12 0 4], [.pt 4 v12 0 5], [.pt 4 v12 0 6], [.pt 4 v12 0 7], [.pt 4 v12 0 8], [.pt 4 v12 0 9], [.pt 4 v12 0 10]] ∧ H' = hk [(1, ⟨32, 10, true, true, v5, [[int a1.Master.Entities, int a1.Master.Periods, lst 1 fI a1.Master.Weights, lst 1 (fL 1 fI) a1.Master.Methods, lst 1 (fL 1 fI) a1.Master.Costs, lst 8 GEnt.av a1.Ents, lst 8 GReceipt.av a1.Receipts, lst 9 GSale.av a1.Sales, lst 6 GTransit.av a1.Transits, int a1.Done]]⟩), (2, ⟨49, 11, true, true, v6, [[int a4.Open, int a4.Bought, int a4.Landed, int a4.Arrived, int a4.Returned, int a4.Sold, int a4.Shipped, int a4.SentBack, int a4.Scrapped, int a4.Lost, int a4.Revalued]]⟩), (3, ⟨32, 10, true, true, v7, [[int 0, int 0, .sc (.slice none 0 0), .sc (.slice none 0 0), .sc (.slice none 0 0), .sc (.slice none 0 0), .sc (.slice none 0 0), .sc (.slice none 0 0), .sc (.slice none 0 0), int 0]]⟩), (4, ⟨49, 11, true, true, v12, [[int x18.1, int x22.1, int x26.1, int x30.1, int x34.1, int x38.1, int x42.1, int x46.1, int x11.Scrapped, int x11.Lost, int x11.Revalued]]⟩)])) rfl rfl rfl (yl_call rfl rfl (.cons rfl .nil) cal81 ?_) ?_
  refine pcw (c := _) Tryz.func81 rfl rfl ?_; intro Q hret hnorm
  refine tc tbk 5 (.mk ?_)
  refine c_drawE [0, 1, 3, 0, 8, 24, 0, 64, 192, 0, 512, 1536, 0, 4096, 12288, 0, 32768, 98304, 0, 262144, 786432, 0, 2097152, 6291456, 0, 16777216, 50331648, 0, 134217728, 402653184, 0, 1073741824, 3221225472, 8589934591, 17179869183] (rl [(1, [4]), (2, [4]), (4, [4]), (5, [4]), (7, [4]), (8, [4]), (10, [4]), (11, [4]), (13, [4]), (14, [4]), (16, [4]), (17, [4]), (19, [4]), (20, [4]), (22, [4]), (23, [4]), (25, [4]), (26, [4]), (28, [4]), (29, [4]), (31, [4]), (32, [4])] []) (fun i => [4]) (fun i => true) [0, 1, 2, 3, 4, 5, 6, 7, 8, 9, 10, 11, 12, 13, 14, 15, 16, 17, 18, 19, 20, 21, 22, 23, 24, 25, 26, 27, 28, 29, 30, 31, 32, 33, 34] mixed (by kernel_rfl) ?_; intro K hK
  refine eM ?_
  refine eN ?_
  refine eF fo49_0 ?_
  refine eM ?_
  refine eN ?_
  refine eF fo49_1 ?_
  refine eM ?_
  refine eN ?_
  refine eF fo49_2 ?_
  refine eM ?_
  refine eN ?_
  refine eF fo49_3 ?_
  refine eM ?_
  refine eN ?_
  refine eF fo49_4 ?_
  refine eM ?_
  refine eN ?_
  refine eF fo49_5 ?_
  refine eM ?_
  refine eN ?_
  refine eF fo49_6 ?_
  refine eM ?_
  refine eN ?_
  refine eF fo49_7 ?_
  refine eM ?_
  refine eN ?_
  refine eF fo49_8 ?_
  refine eM ?_
  refine eN ?_
  refine eF fo49_9 ?_
  refine eM ?_
  refine eN ?_
  refine eF fo49_10 ?_
  refine eP (fun H hH => yv_buildSlice (ps := [(0, _), (1, _), (2, _), (3, _), (4, _), (5, _), (6, _), (7, _), (8, _), (9, _), (10, _)]) (rows := [[.pt 4 v12 0 0], [.pt 4 v12 0 1], [.pt 4 v12 0 2], [.pt 4 v12 0 3], [.pt 4 v12 0 4], [.pt 4 v12 0 5], [.pt 4 v12 0 6], [.pt 4 v12 0 7], [.pt 4 v12 0 8], [.pt 4 v12 0 9], [.pt 4 v12 0 10]]) rfl Tryz.underlying116 bz115 (.cons rfl (.cons rfl (.cons rfl (.cons rfl (.cons rfl (.cons rfl (.cons rfl (.cons rfl (.cons rfl (.cons rfl (.cons rfl .nil))))))))))) (by kernel_rfl) rfl rfl rfl) ?_
  refine eA ?_
  refine de_nil (hK _ ?_)
  obtain rfl := nxt_e h2
  refine w_ret (hret _ _ (hk [(1, ⟨32, 10, true, true, v5, [[int a1.Master.Entities, int a1.Master.Periods, lst 1 fI a1.Master.Weights, lst 1 (fL 1 fI) a1.Master.Methods, lst 1 (fL 1 fI) a1.Master.Costs, lst 8 GEnt.av a1.Ents, lst 8 GReceipt.av a1.Receipts, lst 9 GSale.av a1.Sales, lst 6 GTransit.av a1.Transits, int a1.Done]]⟩), (2, ⟨49, 11, true, true, v6, [[int a4.Open, int a4.Bought, int a4.Landed, int a4.Arrived, int a4.Returned, int a4.Sold, int a4.Shipped, int a4.SentBack, int a4.Scrapped, int a4.Lost, int a4.Revalued]]⟩), (3, ⟨32, 10, true, true, v7, [[int 0, int 0, .sc (.slice none 0 0), .sc (.slice none 0 0), .sc (.slice none 0 0), .sc (.slice none 0 0), .sc (.slice none 0 0), .sc (.slice none 0 0), .sc (.slice none 0 0), int 0]]⟩), (4, ⟨49, 11, true, true, v12, [[int x18.1, int x22.1, int x26.1, int x30.1, int x34.1, int x38.1, int x42.1, int x46.1, int x11.Scrapped, int x11.Lost, int x11.Revalued]]⟩)]) (.tmp rfl .nil) (HK.le ⟨rfl, rfl, rfl, rfl, trivial⟩) ?_)
  exact ⟨(), (), rfl, rfl, rfl⟩
  rintro y _ ⟨_, _, rfl, hc, rfl⟩
  subst hc
  refine tr tbk 1 (.mk ?_)
  refine rst rfl rfl rfl (yv_indexAddr (j := 8) rfl Tryz.underlying116 sh115 rfl rfl rfl (.list rfl)) ?_
  refine tr tbk 9 (.mk ?_)
  obtain ⟨x50, e50, h1⟩ := bind_e h1
  refine rst rfl rfl rfl (yv_callP rfl rfl (.cons rfl (.cons rfl .nil)) cal82 (CvL.refl _) (d_money_Add_c e50)) ?_
  refine tr tbk 10 (.mk ?_)
  refine nb tbk h1 fun x51 h1 => ?_
  refine tr tbk 1 (.mk ?_)
  cases x51
  replace h1 := cf h1
  refine tc tbk 6 (.mk ?_)
  refine sS ⟨49, 11, true, true, v12, [[int x18.1, int x22.1, int x26.1, int x30.1, int x34.1, int x38.1, int x42.1, int x46.1, int x50.1, int x11.Lost, int x11.Revalued]]⟩ sh3 ?_
  refine tr tbk 3 (.mk ?_)
  refine rst rfl rfl rfl (yv_add (r := 9) rfl rfl rfl (by decide)) ?_
  refine tr tbk 5 (.mk ?_)
  refine rst rfl rfl rfl (yv_to (y := boo true) (yv_lss rfl rfl rfl) (congrArg boo (by decide))) ?_
  refine tr tbk 9 (.mk ?_)
  obtain ⟨x52, e52, h1⟩ := bind_e h1
  refine rst rfl rfl rfl (yv_ixT rfl Tryz.underlying23 sh3 rfl rfl e52) ?_
  refine tr tbk 6 (.mk ?_)
  obtain ⟨j53, h2, h1⟩ := bind_e h1
  refine rse (Out := fun y H' => (∃ (a : Unit) (k : Unit), a = j53 ∧ y = .list 1 [[.pt 4 v12 0 0], [.pt 4 v12 0 1], [.pt 4 v12 0 2], [.pt 4 v12 0 3], [.pt 4 v12 0 4], [.pt 4 v12 0 5], [.pt 4 v12 0 6], [.pt 4 v12 0 7], [.pt 4 v12 0 8], [.pt 4 v12 0 9], [.pt 4 v12 0 10]] ∧ H' = hk [(1, ⟨32, 10, true, true, v5, [[int a1.Master.Entities, int a1.Master.Periods, lst 1 fI a1.Master.Weights, lst 1 (fL 1 fI) a1.Master.Methods, lst 1 (fL 1 fI) a1.Master.Costs, lst 8 GEnt.av a1.Ents, lst 8 GReceipt.av a1.Receipts, lst 9 GSale.av a1.Sales, lst 6 GTransit.av a1.Transits, int a1.Done]]⟩), (2, ⟨49, 11, true, true, v6, [[int a4.Open, int a4.Bought, int a4.Landed, int a4.Arrived, int a4.Returned, int a4.Sold, int a4.Shipped, int a4.SentBack, int a4.Scrapped, int a4.Lost, int a4.Revalued]]⟩), (3, ⟨32, 10, true, true, v7, [[int 0, int 0, .sc (.slice none 0 0), .sc (.slice none 0 0), .sc (.slice none 0 0), .sc (.slice none 0 0), .sc (.slice none 0 0), .sc (.slice none 0 0), .sc (.slice none 0 0), int 0]]⟩), (4, ⟨49, 11, true, true, v12, [[int x18.1, int x22.1, int x26.1, int x30.1, int x34.1, int x38.1, int x42.1, int x46.1, int x50.1, int x11.Lost, int x11.Revalued]]⟩)])) rfl rfl rfl (yl_call rfl rfl (.cons rfl .nil) cal81 ?_) ?_
  refine pcw (c := _) Tryz.func81 rfl rfl ?_; intro Q hret hnorm
  refine tc tbk 5 (.mk ?_)
  refine c_drawE [0, 1, 3, 0, 8, 24, 0, 64, 192, 0, 512, 1536, 0, 4096, 12288, 0, 32768, 98304, 0, 262144, 786432, 0, 2097152, 6291456, 0, 16777216, 50331648, 0, 134217728, 402653184, 0, 1073741824, 3221225472, 8589934591, 17179869183] (rl [(1, [4]), (2, [4]), (4, [4]), (5, [4]), (7, [4]), (8, [4]), (10, [4]), (11, [4]), (13, [4]), (14, [4]), (16, [4]), (17, [4]), (19, [4]), (20, [4]), (22, [4]), (23, [4]), (25, [4]), (26, [4]), (28, [4]), (29, [4]), (31, [4]), (32, [4])] []) (fun i => [4]) (fun i => true) [0, 1, 2, 3, 4, 5, 6, 7, 8, 9, 10, 11, 12, 13, 14, 15, 16, 17, 18, 19, 20, 21, 22, 23, 24, 25, 26, 27, 28, 29, 30, 31, 32, 33, 34] mixed (by kernel_rfl) ?_; intro K hK
  refine eM ?_
  refine eN ?_
  refine eF fo49_0 ?_
  refine eM ?_
  refine eN ?_
  refine eF fo49_1 ?_
  refine eM ?_
  refine eN ?_
  refine eF fo49_2 ?_
  refine eM ?_
  refine eN ?_
  refine eF fo49_3 ?_
  refine eM ?_
  refine eN ?_
  refine eF fo49_4 ?_
  refine eM ?_
  refine eN ?_
  refine eF fo49_5 ?_
  refine eM ?_
  refine eN ?_
  refine eF fo49_6 ?_
  refine eM ?_
  refine eN ?_
  refine eF fo49_7 ?_
  refine eM ?_
  refine eN ?_
  refine eF fo49_8 ?_
  refine eM ?_
  refine eN ?_
  refine eF fo49_9 ?_
  refine eM ?_
  refine eN ?_
  refine eF fo49_10 ?_
  refine eP (fun H hH => yv_buildSlice (ps := [(0, _), (1, _), (2, _), (3, _), (4, _), (5, _), (6, _), (7, _), (8, _), (9, _), (10, _)]) (rows := [[.pt 4 v12 0 0], [.pt 4 v12 0 1], [.pt 4 v12 0 2], [.pt 4 v12 0 3], [.pt 4 v12 0 4], [.pt 4 v12 0 5], [.pt 4 v12 0 6], [.pt 4 v12 0 7], [.pt 4 v12 0 8], [.pt 4 v12 0 9], [.pt 4 v12 0 10]]) rfl Tryz.underlying116 bz115 (.cons rfl (.cons rfl (.cons rfl (.cons rfl (.cons rfl (.cons rfl (.cons rfl (.cons rfl (.cons rfl (.cons rfl (.cons rfl .nil))))))))))) (by kernel_rfl) rfl rfl rfl) ?_
  refine eA ?_
  refine de_nil (hK _ ?_)
  obtain rfl := nxt_e h2
  refine w_ret (hret _ _ (hk [(1, ⟨32, 10, true, true, v5, [[int a1.Master.Entities, int a1.Master.Periods, lst 1 fI a1.Master.Weights, lst 1 (fL 1 fI) a1.Master.Methods, lst 1 (fL 1 fI) a1.Master.Costs, lst 8 GEnt.av a1.Ents, lst 8 GReceipt.av a1.Receipts, lst 9 GSale.av a1.Sales, lst 6 GTransit.av a1.Transits, int a1.Done]]⟩), (2, ⟨49, 11, true, true, v6, [[int a4.Open, int a4.Bought, int a4.Landed, int a4.Arrived, int a4.Returned, int a4.Sold, int a4.Shipped, int a4.SentBack, int a4.Scrapped, int a4.Lost, int a4.Revalued]]⟩), (3, ⟨32, 10, true, true, v7, [[int 0, int 0, .sc (.slice none 0 0), .sc (.slice none 0 0), .sc (.slice none 0 0), .sc (.slice none 0 0), .sc (.slice none 0 0), .sc (.slice none 0 0), .sc (.slice none 0 0), int 0]]⟩), (4, ⟨49, 11, true, true, v12, [[int x18.1, int x22.1, int x26.1, int x30.1, int x34.1, int x38.1, int x42.1, int x46.1, int x50.1, int x11.Lost, int x11.Revalued]]⟩)]) (.tmp rfl .nil) (HK.le ⟨rfl, rfl, rfl, rfl, trivial⟩) ?_)
  exact ⟨(), (), rfl, rfl, rfl⟩
  rintro y _ ⟨_, _, rfl, hc, rfl⟩
  subst hc
  refine tr tbk 1 (.mk ?_)
  refine rst rfl rfl rfl (yv_indexAddr (j := 9) rfl Tryz.underlying116 sh115 rfl rfl rfl (.list rfl)) ?_
  refine tr tbk 9 (.mk ?_)
  obtain ⟨x54, e54, h1⟩ := bind_e h1
  refine rst rfl rfl rfl (yv_callP rfl rfl (.cons rfl (.cons rfl .nil)) cal82 (CvL.refl _) (d_money_Add_c e54)) ?_
  refine tr tbk 10 (.mk ?_)
  refine nb tbk h1 fun x55 h1 => ?_
  refine tr tbk 1 (.mk ?_)
  cases x55
  replace h1 := cf h1
  refine tc tbk 6 (.mk ?_)
  refine sS ⟨49, 11, true, true, v12, [[int x18.1, int x22.1, int x26.1, int x30.1, int x34.1, int x38.1, int x42.1, int x46.1, int x50.1, int x54.1, int x11.Revalued]]⟩ sh3 ?_
  refine tr tbk 3 (.mk ?_)
  refine rst rfl rfl rfl (yv_add (r := 10) rfl rfl rfl (by decide)) ?_
  refine tr tbk 5 (.mk ?_)
  refine rst rfl rfl rfl (yv_to (y := boo true) (yv_lss rfl rfl rfl) (congrArg boo (by decide))) ?_
  refine tr tbk 9 (.mk ?_)
  obtain ⟨x56, e56, h1⟩ := bind_e h1
  refine rst rfl rfl rfl (yv_ixT rfl Tryz.underlying23 sh3 rfl rfl e56) ?_
  refine tr tbk 6 (.mk ?_)
  obtain ⟨j57, h2, h1⟩ := bind_e h1
  refine rse (Out := fun y H' => (∃ (a : Unit) (k : Unit), a = j57 ∧ y = .list 1 [[.pt 4 v12 0 0], [.pt 4 v12 0 1], [.pt 4 v12 0 2], [.pt 4 v12 0 3], [.pt 4 v12 0 4], [.pt 4 v12 0 5], [.pt 4 v12 0 6], [.pt 4 v12 0 7], [.pt 4 v12 0 8], [.pt 4 v12 0 9], [.pt 4 v12 0 10]] ∧ H' = hk [(1, ⟨32, 10, true, true, v5, [[int a1.Master.Entities, int a1.Master.Periods, lst 1 fI a1.Master.Weights, lst 1 (fL 1 fI) a1.Master.Methods, lst 1 (fL 1 fI) a1.Master.Costs, lst 8 GEnt.av a1.Ents, lst 8 GReceipt.av a1.Receipts, lst 9 GSale.av a1.Sales, lst 6 GTransit.av a1.Transits, int a1.Done]]⟩), (2, ⟨49, 11, true, true, v6, [[int a4.Open, int a4.Bought, int a4.Landed, int a4.Arrived, int a4.Returned, int a4.Sold, int a4.Shipped, int a4.SentBack, int a4.Scrapped, int a4.Lost, int a4.Revalued]]⟩), (3, ⟨32, 10, true, true, v7, [[int 0, int 0, .sc (.slice none 0 0), .sc (.slice none 0 0), .sc (.slice none 0 0), .sc (.slice none 0 0), .sc (.slice none 0 0), .sc (.slice none 0 0), .sc (.slice none 0 0), int 0]]⟩), (4, ⟨49, 11, true, true, v12, [[int x18.1, int x22.1, int x26.1, int x30.1, int x34.1, int x38.1, int x42.1, int x46.1, int x50.1, int x54.1, int x11.Revalued]]⟩)])) rfl rfl rfl (yl_call rfl rfl (.cons rfl .nil) cal81 ?_) ?_
  refine pcw (c := _) Tryz.func81 rfl rfl ?_; intro Q hret hnorm
  refine tc tbk 5 (.mk ?_)
  refine c_drawE [0, 1, 3, 0, 8, 24, 0, 64, 192, 0, 512, 1536, 0, 4096, 12288, 0, 32768, 98304, 0, 262144, 786432, 0, 2097152, 6291456, 0, 16777216, 50331648, 0, 134217728, 402653184, 0, 1073741824, 3221225472, 8589934591, 17179869183] (rl [(1, [4]), (2, [4]), (4, [4]), (5, [4]), (7, [4]), (8, [4]), (10, [4]), (11, [4]), (13, [4]), (14, [4]), (16, [4]), (17, [4]), (19, [4]), (20, [4]), (22, [4]), (23, [4]), (25, [4]), (26, [4]), (28, [4]), (29, [4]), (31, [4]), (32, [4])] []) (fun i => [4]) (fun i => true) [0, 1, 2, 3, 4, 5, 6, 7, 8, 9, 10, 11, 12, 13, 14, 15, 16, 17, 18, 19, 20, 21, 22, 23, 24, 25, 26, 27, 28, 29, 30, 31, 32, 33, 34] mixed (by kernel_rfl) ?_; intro K hK
  refine eM ?_
  refine eN ?_
  refine eF fo49_0 ?_
  refine eM ?_
  refine eN ?_
  refine eF fo49_1 ?_
  refine eM ?_
  refine eN ?_
  refine eF fo49_2 ?_
  refine eM ?_
  refine eN ?_
  refine eF fo49_3 ?_
  refine eM ?_
  refine eN ?_
  refine eF fo49_4 ?_
  refine eM ?_
  refine eN ?_
  refine eF fo49_5 ?_
  refine eM ?_
  refine eN ?_
  refine eF fo49_6 ?_
  refine eM ?_
  refine eN ?_
  refine eF fo49_7 ?_
  refine eM ?_
  refine eN ?_
  refine eF fo49_8 ?_
  refine eM ?_
  refine eN ?_
  refine eF fo49_9 ?_
  refine eM ?_
  refine eN ?_
  refine eF fo49_10 ?_
  refine eP (fun H hH => yv_buildSlice (ps := [(0, _), (1, _), (2, _), (3, _), (4, _), (5, _), (6, _), (7, _), (8, _), (9, _), (10, _)]) (rows := [[.pt 4 v12 0 0], [.pt 4 v12 0 1], [.pt 4 v12 0 2], [.pt 4 v12 0 3], [.pt 4 v12 0 4], [.pt 4 v12 0 5], [.pt 4 v12 0 6], [.pt 4 v12 0 7], [.pt 4 v12 0 8], [.pt 4 v12 0 9], [.pt 4 v12 0 10]]) rfl Tryz.underlying116 bz115 (.cons rfl (.cons rfl (.cons rfl (.cons rfl (.cons rfl (.cons rfl (.cons rfl (.cons rfl (.cons rfl (.cons rfl (.cons rfl .nil))))))))))) (by kernel_rfl) rfl rfl rfl) ?_
  refine eA ?_
  refine de_nil (hK _ ?_)
  obtain rfl := nxt_e h2
  refine w_ret (hret _ _ (hk [(1, ⟨32, 10, true, true, v5, [[int a1.Master.Entities, int a1.Master.Periods, lst 1 fI a1.Master.Weights, lst 1 (fL 1 fI) a1.Master.Methods, lst 1 (fL 1 fI) a1.Master.Costs, lst 8 GEnt.av a1.Ents, lst 8 GReceipt.av a1.Receipts, lst 9 GSale.av a1.Sales, lst 6 GTransit.av a1.Transits, int a1.Done]]⟩), (2, ⟨49, 11, true, true, v6, [[int a4.Open, int a4.Bought, int a4.Landed, int a4.Arrived, int a4.Returned, int a4.Sold, int a4.Shipped, int a4.SentBack, int a4.Scrapped, int a4.Lost, int a4.Revalued]]⟩), (3, ⟨32, 10, true, true, v7, [[int 0, int 0, .sc (.slice none 0 0), .sc (.slice none 0 0), .sc (.slice none 0 0), .sc (.slice none 0 0), .sc (.slice none 0 0), .sc (.slice none 0 0), .sc (.slice none 0 0), int 0]]⟩), (4, ⟨49, 11, true, true, v12, [[int x18.1, int x22.1, int x26.1, int x30.1, int x34.1, int x38.1, int x42.1, int x46.1, int x50.1, int x54.1, int x11.Revalued]]⟩)]) (.tmp rfl .nil) (HK.le ⟨rfl, rfl, rfl, rfl, trivial⟩) ?_)
  exact ⟨(), (), rfl, rfl, rfl⟩
  rintro y _ ⟨_, _, rfl, hc, rfl⟩
  subst hc
  refine tr tbk 1 (.mk ?_)
  refine rst rfl rfl rfl (yv_indexAddr (j := 10) rfl Tryz.underlying116 sh115 rfl rfl rfl (.list rfl)) ?_
  refine tr tbk 9 (.mk ?_)
  obtain ⟨x58, e58, h1⟩ := bind_e h1
  refine rst rfl rfl rfl (yv_callP rfl rfl (.cons rfl (.cons rfl .nil)) cal82 (CvL.refl _) (d_money_Add_c e58)) ?_
  refine tr tbk 10 (.mk ?_)
  refine nb tbk h1 fun x59 h1 => ?_
  refine tr tbk 1 (.mk ?_)
  cases x59
  replace h1 := cf h1
  refine tc tbk 6 (.mk ?_)
  refine sS ⟨49, 11, true, true, v12, [[int x18.1, int x22.1, int x26.1, int x30.1, int x34.1, int x38.1, int x42.1, int x46.1, int x50.1, int x54.1, int x58.1]]⟩ sh3 ?_
  refine tr tbk 3 (.mk ?_)
  refine rst rfl rfl rfl (yv_add (r := 11) rfl rfl rfl (by decide)) ?_
  refine tr tbk 5 (.mk ?_)
  refine rst rfl rfl rfl (yv_to (y := boo false) (yv_lss rfl rfl rfl) (congrArg boo (by decide))) ?_
  refine tr tbk 4 (.mk ?_)
  exact lfE h1 () leA
  replace h1 := ct h1
  refine tc tbk 5 (.mk ?_)
  refine sS ⟨32, 10, true, true, v7, [[int a1.Master.Entities, int a1.Master.Periods, lst 1 fI a1.Master.Weights, lst 1 (fL 1 fI) a1.Master.Methods, lst 1 (fL 1 fI) a1.Master.Costs, lst 8 GEnt.av a1.Ents, lst 8 GReceipt.av a1.Receipts, lst 9 GSale.av a1.Sales, lst 6 GTransit.av a1.Transits, int a1.Done]]⟩ sh32 ?_
  refine tr tbk 2 (.mk ?_)
  obtain ⟨c60, hX, hj⟩ := esc_e h1; subst hj; replace h0 := hX.trans (sel_r h0)
  obtain rfl := nxt_e h0
  refine w_ret (hret _ _ _ (.cell rfl (.pt rfl rfl rfl) sh32 rfl (.tmp rfl .nil)) (fun _ _ h => h) ?_)
  exact .refl _
  replace h1 := ct h1
  refine tc tbk 5 (.mk ?_)
  refine sS ⟨32, 10, true, true, v7, [[int a1.Master.Entities, int a1.Master.Periods, lst 1 fI a1.Master.Weights, lst 1 (fL 1 fI) a1.Master.Methods, lst 1 (fL 1 fI) a1.Master.Costs, lst 8 GEnt.av a1.Ents, lst 8 GReceipt.av a1.Receipts, lst 9 GSale.av a1.Sales, lst 6 GTransit.av a1.Transits, int a1.Done]]⟩ sh32 ?_
  refine tr tbk 2 (.mk ?_)
  obtain ⟨c61, hX, hj⟩ := esc_e h1; subst hj; replace h0 := hX.trans (sel_r h0)
  obtain rfl := nxt_e h0
  refine w_ret (hret _ _ _ (.cell rfl (.pt rfl rfl rfl) sh32 rfl (.tmp rfl .nil)) (fun _ _ h => h) ?_)
  exact .refl _
  replace h1 := ct h1
  refine tc tbk 5 (.mk ?_)
  refine sS ⟨32, 10, true, true, v7, [[int a1.Master.Entities, int a1.Master.Periods, lst 1 fI a1.Master.Weights, lst 1 (fL 1 fI) a1.Master.Methods, lst 1 (fL 1 fI) a1.Master.Costs, lst 8 GEnt.av a1.Ents, lst 8 GReceipt.av a1.Receipts, lst 9 GSale.av a1.Sales, lst 6 GTransit.av a1.Transits, int a1.Done]]⟩ sh32 ?_
  refine tr tbk 2 (.mk ?_)
  obtain ⟨c62, hX, hj⟩ := esc_e h1; subst hj; replace h0 := hX.trans (sel_r h0)
  obtain rfl := nxt_e h0
  refine w_ret (hret _ _ _ (.cell rfl (.pt rfl rfl rfl) sh32 rfl (.tmp rfl .nil)) (fun _ _ h => h) ?_)
  exact .refl _
  replace h1 := ct h1
  refine tc tbk 5 (.mk ?_)
  refine sS ⟨32, 10, true, true, v7, [[int a1.Master.Entities, int a1.Master.Periods, lst 1 fI a1.Master.Weights, lst 1 (fL 1 fI) a1.Master.Methods, lst 1 (fL 1 fI) a1.Master.Costs, lst 8 GEnt.av a1.Ents, lst 8 GReceipt.av a1.Receipts, lst 9 GSale.av a1.Sales, lst 6 GTransit.av a1.Transits, int a1.Done]]⟩ sh32 ?_
  refine tr tbk 2 (.mk ?_)
  obtain ⟨c63, hX, hj⟩ := esc_e h1; subst hj; replace h0 := hX.trans (sel_r h0)
  obtain rfl := nxt_e h0
  refine w_ret (hret _ _ _ (.cell rfl (.pt rfl rfl rfl) sh32 rfl (.tmp rfl .nil)) (fun _ _ h => h) ?_)
  exact .refl _
  replace h1 := ct h1
  refine tc tbk 5 (.mk ?_)
  refine sS ⟨32, 10, true, true, v7, [[int a1.Master.Entities, int a1.Master.Periods, lst 1 fI a1.Master.Weights, lst 1 (fL 1 fI) a1.Master.Methods, lst 1 (fL 1 fI) a1.Master.Costs, lst 8 GEnt.av a1.Ents, lst 8 GReceipt.av a1.Receipts, lst 9 GSale.av a1.Sales, lst 6 GTransit.av a1.Transits, int a1.Done]]⟩ sh32 ?_
  refine tr tbk 2 (.mk ?_)
  obtain ⟨c64, hX, hj⟩ := esc_e h1; subst hj; replace h0 := hX.trans (sel_r h0)
  obtain rfl := nxt_e h0
  refine w_ret (hret _ _ _ (.cell rfl (.pt rfl rfl rfl) sh32 rfl (.tmp rfl .nil)) (fun _ _ h => h) ?_)
  exact .refl _
  replace h1 := ct h1
  refine tc tbk 5 (.mk ?_)
  refine sS ⟨32, 10, true, true, v7, [[int a1.Master.Entities, int a1.Master.Periods, lst 1 fI a1.Master.Weights, lst 1 (fL 1 fI) a1.Master.Methods, lst 1 (fL 1 fI) a1.Master.Costs, lst 8 GEnt.av a1.Ents, lst 8 GReceipt.av a1.Receipts, lst 9 GSale.av a1.Sales, lst 6 GTransit.av a1.Transits, int a1.Done]]⟩ sh32 ?_
  refine tr tbk 2 (.mk ?_)
  obtain ⟨c65, hX, hj⟩ := esc_e h1; subst hj; replace h0 := hX.trans (sel_r h0)
  obtain rfl := nxt_e h0
  refine w_ret (hret _ _ _ (.cell rfl (.pt rfl rfl rfl) sh32 rfl (.tmp rfl .nil)) (fun _ _ h => h) ?_)
  exact .refl _
  replace h1 := ct h1
  refine tc tbk 5 (.mk ?_)
  refine sS ⟨32, 10, true, true, v7, [[int a1.Master.Entities, int a1.Master.Periods, lst 1 fI a1.Master.Weights, lst 1 (fL 1 fI) a1.Master.Methods, lst 1 (fL 1 fI) a1.Master.Costs, lst 8 GEnt.av a1.Ents, lst 8 GReceipt.av a1.Receipts, lst 9 GSale.av a1.Sales, lst 6 GTransit.av a1.Transits, int a1.Done]]⟩ sh32 ?_
  refine tr tbk 2 (.mk ?_)
  obtain ⟨c66, hX, hj⟩ := esc_e h1; subst hj; replace h0 := hX.trans (sel_r h0)
  obtain rfl := nxt_e h0
  refine w_ret (hret _ _ _ (.cell rfl (.pt rfl rfl rfl) sh32 rfl (.tmp rfl .nil)) (fun _ _ h => h) ?_)
  exact .refl _
  replace h1 := ct h1
  refine tc tbk 5 (.mk ?_)
  refine sS ⟨32, 10, true, true, v7, [[int a1.Master.Entities, int a1.Master.Periods, lst 1 fI a1.Master.Weights, lst 1 (fL 1 fI) a1.Master.Methods, lst 1 (fL 1 fI) a1.Master.Costs, lst 8 GEnt.av a1.Ents, lst 8 GReceipt.av a1.Receipts, lst 9 GSale.av a1.Sales, lst 6 GTransit.av a1.Transits, int a1.Done]]⟩ sh32 ?_
  refine tr tbk 2 (.mk ?_)
  obtain ⟨c67, hX, hj⟩ := esc_e h1; subst hj; replace h0 := hX.trans (sel_r h0)
  obtain rfl := nxt_e h0
  refine w_ret (hret _ _ _ (.cell rfl (.pt rfl rfl rfl) sh32 rfl (.tmp rfl .nil)) (fun _ _ h => h) ?_)
  exact .refl _
  replace h1 := ct h1
  refine tc tbk 5 (.mk ?_)
  refine sS ⟨32, 10, true, true, v7, [[int a1.Master.Entities, int a1.Master.Periods, lst 1 fI a1.Master.Weights, lst 1 (fL 1 fI) a1.Master.Methods, lst 1 (fL 1 fI) a1.Master.Costs, lst 8 GEnt.av a1.Ents, lst 8 GReceipt.av a1.Receipts, lst 9 GSale.av a1.Sales, lst 6 GTransit.av a1.Transits, int a1.Done]]⟩ sh32 ?_
  refine tr tbk 2 (.mk ?_)
  obtain ⟨c68, hX, hj⟩ := esc_e h1; subst hj; replace h0 := hX.trans (sel_r h0)
  obtain rfl := nxt_e h0
  refine w_ret (hret _ _ _ (.cell rfl (.pt rfl rfl rfl) sh32 rfl (.tmp rfl .nil)) (fun _ _ h => h) ?_)
  exact .refl _
  replace h1 := ct h1
  refine tc tbk 5 (.mk ?_)
  refine sS ⟨32, 10, true, true, v7, [[int a1.Master.Entities, int a1.Master.Periods, lst 1 fI a1.Master.Weights, lst 1 (fL 1 fI) a1.Master.Methods, lst 1 (fL 1 fI) a1.Master.Costs, lst 8 GEnt.av a1.Ents, lst 8 GReceipt.av a1.Receipts, lst 9 GSale.av a1.Sales, lst 6 GTransit.av a1.Transits, int a1.Done]]⟩ sh32 ?_
  refine tr tbk 2 (.mk ?_)
  obtain ⟨c69, hX, hj⟩ := esc_e h1; subst hj; replace h0 := hX.trans (sel_r h0)
  obtain rfl := nxt_e h0
  refine w_ret (hret _ _ _ (.cell rfl (.pt rfl rfl rfl) sh32 rfl (.tmp rfl .nil)) (fun _ _ h => h) ?_)
  exact .refl _
  replace h1 := ct h1
  refine tc tbk 5 (.mk ?_)
  refine sS ⟨32, 10, true, true, v7, [[int a1.Master.Entities, int a1.Master.Periods, lst 1 fI a1.Master.Weights, lst 1 (fL 1 fI) a1.Master.Methods, lst 1 (fL 1 fI) a1.Master.Costs, lst 8 GEnt.av a1.Ents, lst 8 GReceipt.av a1.Receipts, lst 9 GSale.av a1.Sales, lst 6 GTransit.av a1.Transits, int a1.Done]]⟩ sh32 ?_
  refine tr tbk 2 (.mk ?_)
  obtain ⟨c70, hX, hj⟩ := esc_e h1; subst hj; replace h0 := hX.trans (sel_r h0)
  obtain rfl := nxt_e h0
  refine w_ret (hret _ _ _ (.cell rfl (.pt rfl rfl rfl) sh32 rfl (.tmp rfl .nil)) (fun _ _ h => h) ?_)
  exact .refl _
  rintro y2_1 _ h0
  refine tc tbk 3 (.mk ?_)
  refine rst rfl rfl rfl (yv_build (cs := [int a1.Master.Entities, int a1.Master.Periods, lst 1 fI a1.Master.Weights, lst 1 (fL 1 fI) a1.Master.Methods, lst 1 (fL 1 fI) a1.Master.Costs, lst 8 GEnt.av a1.Ents, lst 8 GReceipt.av a1.Receipts, lst 9 GSale.av a1.Sales, lst 6 GTransit.av a1.Transits, int a1.Done]) (ps := [(0, _)]) rfl pl104 z104 rfl (.cons rfl .nil) (by kernel_rfl)) ?_
  refine rse rfl rfl rfl (yl_alloc 6 .any rfl z104 rfl) ?_; rintro _ _ ⟨v71, -, rfl, rfl⟩
  refine sS ⟨104, 10, true, true, v71, [[int a1.Master.Entities, int a1.Master.Periods, lst 1 fI a1.Master.Weights, lst 1 (fL 1 fI) a1.Master.Methods, lst 1 (fL 1 fI) a1.Master.Costs, lst 8 GEnt.av a1.Ents, lst 8 GReceipt.av a1.Receipts, lst 9 GSale.av a1.Sales, lst 6 GTransit.av a1.Transits, int a1.Done]]⟩ sh104 ?_
  refine tr tbk 4 (.mk ?_)
  obtain ⟨j72, h1, h0⟩ := bind_e h0
  refine rse (Out := fun y H' => (∃ (a : Unit) (k : Nat), a = j72 ∧ y = .pt 7 k (Int.toNat a2) 0 ∧ H' = hk [(1, ⟨32, 10, true, true, v5, [[int a1.Master.Entities, int a1.Master.Periods, lst 1 fI a1.Master.Weights, lst 1 (fL 1 fI) a1.Master.Methods, lst 1 (fL 1 fI) a1.Master.Costs, lst 8 GEnt.av a1.Ents, lst 8 GReceipt.av a1.Receipts, lst 9 GSale.av a1.Sales, lst 6 GTransit.av a1.Transits, int a1.Done]]⟩), (3, ⟨32, 10, true, true, v7, [[int 0, int 0, .sc (.slice none 0 0), .sc (.slice none 0 0), .sc (.slice none 0 0), .sc (.slice none 0 0), .sc (.slice none 0 0), .sc (.slice none 0 0), .sc (.slice none 0 0), int 0]]⟩), (4, ⟨49, 11, true, true, v12, [[int y2_1.Open, int y2_1.Bought, int y2_1.Landed, int y2_1.Arrived, int y2_1.Returned, int y2_1.Sold, int y2_1.Shipped, int y2_1.SentBack, int y2_1.Scrapped, int y2_1.Lost, int y2_1.Revalued]]⟩), (6, ⟨104, 10, true, true, v71, [[int a1.Master.Entities, int a1.Master.Periods, lst 1 fI a1.Master.Weights, lst 1 (fL 1 fI) a1.Master.Methods, lst 1 (fL 1 fI) a1.Master.Costs, .sl 7 k 0 a1.Ents.length, lst 8 GReceipt.av a1.Receipts, lst 9 GSale.av a1.Sales, lst 6 GTransit.av a1.Transits, int a1.Done]]⟩), (7, ⟨42, 8, true, true, k, a1.Ents.map GEnt.av⟩)])) rfl rfl rfl (yl_call rfl rfl (.cons rfl (.cons rfl .nil)) cal79 ?_) ?_
  refine pcw (c := _) Tryz.func79 rfl rfl ?_; intro Q hret hnorm
  refine tc tbk 12 (.mk ?_)
  obtain ⟨p73, h1⟩ := asrt_e h1
  refine rse rfl rfl rfl (yl_call rfl rfl (.cons rfl .nil) cal106 (pc_cv (clone106_c (id := 7) (l := a1.Ents) rfl p73) (.cons (.refl _) .nil))) ?_; rintro _ _ ⟨v74, rfl, rfl⟩
  refine tr tbk 3 (.mk ?_)
  refine sS ⟨104, 10, true, true, v71, [[int a1.Master.Entities, int a1.Master.Periods, lst 1 fI a1.Master.Weights, lst 1 (fL 1 fI) a1.Master.Methods, lst 1 (fL 1 fI) a1.Master.Costs, .sl 7 v74 0 a1.Ents.length, lst 8 GReceipt.av a1.Receipts, lst 9 GSale.av a1.Sales, lst 6 GTransit.av a1.Transits, int a1.Done]]⟩ sh27 ?_
  refine tr tbk 9 (.mk ?_)
  obtain ⟨x75, e75, h1⟩ := bind_e h1
  refine rst rfl rfl rfl (yv_ixO rfl Tryz.underlying27 sh42 rfl rfl rfl rfl rfl (Eq.symm rfl) (List.length_map _) e75) ?_
  refine tr tbk 2 (.mk ?_)
  obtain rfl := nxt_e h1
  refine w_ret (hret _ _ (hk [(1, ⟨32, 10, true, true, v5, [[int a1.Master.Entities, int a1.Master.Periods, lst 1 fI a1.Master.Weights, lst 1 (fL 1 fI) a1.Master.Methods, lst 1 (fL 1 fI) a1.Master.Costs, lst 8 GEnt.av a1.Ents, lst 8 GReceipt.av a1.Receipts, lst 9 GSale.av a1.Sales, lst 6 GTransit.av a1.Transits, int a1.Done]]⟩), (3, ⟨32, 10, true, true, v7, [[int 0, int 0, .sc (.slice none 0 0), .sc (.slice none 0 0), .sc (.slice none 0 0), .sc (.slice none 0 0), .sc (.slice none 0 0), .sc (.slice none 0 0), .sc (.slice none 0 0), int 0]]⟩), (4, ⟨49, 11, true, true, v12, [[int y2_1.Open, int y2_1.Bought, int y2_1.Landed, int y2_1.Arrived, int y2_1.Returned, int y2_1.Sold, int y2_1.Shipped, int y2_1.SentBack, int y2_1.Scrapped, int y2_1.Lost, int y2_1.Revalued]]⟩), (6, ⟨104, 10, true, true, v71, [[int a1.Master.Entities, int a1.Master.Periods, lst 1 fI a1.Master.Weights, lst 1 (fL 1 fI) a1.Master.Methods, lst 1 (fL 1 fI) a1.Master.Costs, .sl 7 v74 0 a1.Ents.length, lst 8 GReceipt.av a1.Receipts, lst 9 GSale.av a1.Sales, lst 6 GTransit.av a1.Transits, int a1.Done]]⟩), (7, ⟨42, 8, true, true, v74, a1.Ents.map GEnt.av⟩)]) (.tmp rfl .nil) (HK.le ⟨rfl, rfl, rfl, rfl, rfl, trivial⟩) ?_)
  exact ⟨(), v74, rfl, rfl, rfl⟩
  rintro y _ ⟨_, w3_1, rfl, hc, rfl⟩
  subst hc
  refine tr tbk 6 (.mk ?_)
  obtain ⟨x76, e76, h0⟩ := bind_e h0
  refine rst rfl rfl rfl (yv_nilCheck rfl rfl (.pt rfl rfl (ix_get' e76 (GEnt.av_eq _)))) ?_
  refine rst rfl rfl rfl (yv_fieldAddr rfl fo42_4 rfl (.pt rfl rfl (ix_get' e76 (GEnt.av_eq _))) (.pt _ _ _ _ _)) ?_
  refine rst rfl rfl rfl (yv_load rfl sh40 rfl (.pt rfl rfl (ix_get' e76 (GEnt.av_eq _))) rfl) ?_
  obtain ⟨p77, h0⟩ := asrt_e h0
  refine rse rfl rfl rfl (yl_call rfl rfl (.cons rfl .nil) cal83 (pc_cv (clone83_c (id := 8) (l := x76.Rolls) rfl p77) (.cons (.refl _) .nil))) ?_; rintro _ _ ⟨v78, rfl, rfl⟩
  refine rst rfl rfl rfl (yv_nilCheck rfl rfl (.pt rfl rfl (ix_get' e76 (GEnt.av_eq _)))) ?_
  refine rst rfl rfl rfl (yv_fieldAddr rfl fo42_4 rfl (.pt rfl rfl (ix_get' e76 (GEnt.av_eq _))) (.pt _ _ _ _ _)) ?_
  refine rsstore rfl rfl (yl_ob (ob' := (⟨42, 8, true, true, w3_1, (a1.Ents.map GEnt.av).set (Int.toNat a2) [int x76.Now, boo x76.Closed, lst 4 GPool.av x76.Pools, lst 1 fI x76.Bal, .sl 8 v78 0 x76.Rolls.length, lst 1 fI x76.Prices, lst 1 fI x76.Down, lst 8 GEnt.av x76.Ahead]⟩ : AObj)) (yl_store rfl sh40 rfl rfl rfl rfl rfl (ix_get' e76 (GEnt.av_eq _)) rfl rfl rfl) (ob_eq rfl)) ?_
  refine tr tbk 2 (.mk ?_)
  refine c_drawE [0, 1, 3, 7, 0, 0, 63, 127] (rl [(1, [7]), (2, [7]), (3, [7]), (5, [4]), (6, [8])] []) (rl [(7, [])] [4, 7, 8]) (rl [(7, false)] true) [0, 1, 2, 3, 4, 5, 6, 7] mixed (by kernel_rfl) ?_; intro K hK
  refine eM ?_
  refine eN (hr := set_get e76) ?_
  refine eF fo42_4 (hr := set_get e76) ?_
  refine eL sh40 (hr := set_get e76) ?_
  refine eM ?_
  refine eL sh49 ?_
  obtain ⟨x79, e79, h0⟩ := bind_e h0
  refine de_pure rfl rfl rfl rfl (fun H hH => yv_ixO rfl Tryz.underlying40 sh49 rfl rfl ((hH _ (by decide)).trans rfl) rfl rfl (Eq.symm rfl) (List.length_map _) e79) ?_
  obtain ⟨x80, e80, h0⟩ := bnd_e h0
  have fx80 := ix_set e79 e80; have lx80 := len_setV e80 (rfl : x76.Rolls.length = x76.Rolls.length)
  refine de_eff0 rfl rfl rfl rfl (Yield.weak (yl_ob (ob' := (⟨49, 11, true, true, v78, x80.map GRoll.av⟩ : AObj)) (yl_store rfl sh49 rfl rfl rfl rfl rfl (ix_get e79) rfl rfl rfl) (ob_eq (map_setV e80))) (fun _ h => h) (fun _ _ => trivial)) (by rintro _ _ ⟨rfl, rfl⟩; exact trivial) ?_; rintro _ _ ⟨rfl, rfl⟩
  refine de_nil (hK _ ?_)
  refine tc tbk 4 (.mk ?_)
  refine sS ⟨32, 10, true, true, v7, [[int a1.Master.Entities, int a1.Master.Periods, lst 1 fI a1.Master.Weights, lst 1 (fL 1 fI) a1.Master.Methods, lst 1 (fL 1 fI) a1.Master.Costs, .sl 7 w3_1 0 a1.Ents.length, lst 8 GReceipt.av a1.Receipts, lst 9 GSale.av a1.Sales, lst 6 GTransit.av a1.Transits, int a1.Done]]⟩ sh32 ?_
  refine tr tbk 2 (.mk ?_)
  obtain rfl := nxt_e h0
  refine w_ret (hret _ _ _ (.cell rfl (.pt rfl rfl rfl) sh32 rfl (.tmp rfl .nil)) (fun _ _ h => h) ?_)
  exact CvL.tup (.cons (CvL.agg (.cons (.refl _) (.cons (.refl _) (.cons (.refl _) (.cons (.refl _) (.cons (.refl _) (.cons (cv_ov rfl rfl rfl rfl rfl (Eq.symm rfl) e76 (cvl_to (.cons (.refl _) (.cons (.refl _) (.cons (.refl _) (.cons (.refl _) (.cons (cv_lst rfl rfl rfl rfl rfl (Eq.symm lx80)) (.cons (.refl _) (.cons (.refl _) (.cons (.refl _) .nil)))))))) (GEnt.av_eq _))) (.cons (.refl _) (.cons (.refl _) (.cons (.refl _) (.cons (.refl _) .nil))))))))))) (.cons (.refl _) .nil))
  replace h0 := ct h0
  refine tc tbk 4 (.mk ?_)
  refine sS ⟨32, 10, true, true, v7, [[int a1.Master.Entities, int a1.Master.Periods, lst 1 fI a1.Master.Weights, lst 1 (fL 1 fI) a1.Master.Methods, lst 1 (fL 1 fI) a1.Master.Costs, lst 8 GEnt.av a1.Ents, lst 8 GReceipt.av a1.Receipts, lst 9 GSale.av a1.Sales, lst 6 GTransit.av a1.Transits, int a1.Done]]⟩ sh32 ?_
  refine tr tbk 2 (.mk ?_)
  obtain rfl := nxt_e h0
  refine w_ret (hret _ _ _ (.cell rfl (.pt rfl rfl rfl) sh32 rfl (.tmp rfl .nil)) (fun _ _ h => h) ?_)
  exact .refl _
end Go.Pv
