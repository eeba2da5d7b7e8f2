import Derived.Test.YtbcjcecegdfnpaaGreatK8d
set_option linter.unusedVariables false
namespace Go.Pv
open Go.Proofs
set_option maxRecDepth 10000
set_option maxHeartbeats 1000000
mutual
def d_ref14_sameEnt_L0 (a1 : GEnt) (a2 : GEnt) : Nat → Int → Option ((Unit) ⊕ (Bool))
  | 0, _ => none
  | n + 1, y1_1 =>
    bnd (decide (y1_1 < (a1.Pools.length : Int))) fun x12 =>
    cond x12 ((ix a1.Pools y1_1).bind fun x13 =>
    (ix a2.Pools y1_1).bind fun x14 =>
    (d_ref11_Same n x13 x14).bind fun x15 =>
    bnd (!x15) fun x16 =>
    cond x16 (esc (some ((false : Bool)))) (bnd (w64 (y1_1 + 1)) fun x17 =>
    d_ref14_sameEnt_L0 a1 a2 n (x17 : Int))) (brk ())
def d_ref14_sameEnt_L1 (a1 : GEnt) (a2 : GEnt) : Nat → Int → Option ((Unit) ⊕ (Bool))
  | 0, _ => none
  | n + 1, y3_1 =>
    bnd (decide (y3_1 < (a1.Rolls.length : Int))) fun x20 =>
    cond x20 ((ix a1.Rolls y3_1).bind fun x21 =>
    (d_ref14_Numbers x21).bind fun x22 =>
    (ix a2.Rolls y3_1).bind fun x23 =>
    (d_ref14_Numbers x23).bind fun x24 =>
    bnd (!decide ((x22 : A11_Int) = (x24 : A11_Int))) fun x25 =>
    cond x25 (esc (some ((false : Bool)))) (bnd (w64 (y3_1 + 1)) fun x26 =>
    d_ref14_sameEnt_L1 a1 a2 n (x26 : Int))) (brk ())
def d_ref14_sameEnt_L2 (a1 : GEnt) (a2 : GEnt) : Nat → Int → Option ((Unit) ⊕ (Bool))
  | 0, _ => none
  | n + 1, y5_1 =>
    bnd (decide (y5_1 < (a1.Ahead.length : Int))) fun x29 =>
    cond x29 ((ix a1.Ahead y5_1).bind fun x30 =>
    (ix a2.Ahead y5_1).bind fun x31 =>
    (d_ref14_sameEnt n x30 x31).bind fun x32 =>
    bnd (!x32) fun x33 =>
    cond x33 (esc (some ((false : Bool)))) (bnd (w64 (y5_1 + 1)) fun x34 =>
    d_ref14_sameEnt_L2 a1 a2 n (x34 : Int))) (brk ())
def d_ref14_sameEnt : Nat → GEnt → GEnt → Option (Bool)
  | 0, _, _ => none
  | n + 1, a1, a2 =>
    (show Option (Bool) from
    bnd (decide (a1.Now ≠ a2.Now)) fun x6 =>
    cond x6 (some (true : Bool)) (bnd (decide (a1.Closed ≠ a2.Closed)) fun x7 =>
    cond x7 (some (true : Bool)) (bnd (decide ((a1.Pools.length : Int) ≠ (a2.Pools.length : Int))) fun x8 =>
    cond x8 (some (true : Bool)) (bnd (decide ((a1.Rolls.length : Int) ≠ (a2.Rolls.length : Int))) fun x9 =>
    cond x9 (some (true : Bool)) (bnd (decide ((a1.Ahead.length : Int) ≠ (a2.Ahead.length : Int))) fun x10 =>
    some (x10 : Bool)))))).bind <| fun y0_1 =>
    cond y0_1 (some ((false : Bool))) ((show Option ((Unit) ⊕ (Bool)) from
    d_ref14_sameEnt_L0 a1 a2 n (0 : Int)).bind <| sel <| fun _ =>
    (show Option ((Unit) ⊕ (Bool)) from
    d_ref14_sameEnt_L1 a1 a2 n (0 : Int)).bind <| sel <| fun _ =>
    (show Option ((Unit) ⊕ (Bool)) from
    d_ref14_sameEnt_L2 a1 a2 n (0 : Int)).bind <| sel <| fun _ =>
    (show Option (Bool) from
    (d_ref04_SameInts n a1.Bal a2.Bal).bind fun x37 =>
    cond x37 ((d_ref04_SameInts n a1.Prices a2.Prices).bind fun x38 =>
    cond x38 ((d_ref04_SameInts n a1.Down a2.Down).bind fun x39 =>
    some (x39 : Bool)) (some (false : Bool))) (some (false : Bool))).bind <| fun y7_1 =>
    some ((y7_1 : Bool)))
end
theorem d_ref14_sameEnt_c {n : Nat} {a1 : GEnt} {a2 : GEnt} {r : Bool} (h0 : d_ref14_sameEnt n a1 a2 = some r) : PP Tryz.prog 50 [.agg [int a1.Now, boo a1.Closed, lst 4 GPool.av a1.Pools, lst 1 fI a1.Bal, lst 11 GRoll.av a1.Rolls, lst 1 fI a1.Prices, lst 1 fI a1.Down, lst 8 GEnt.av a1.Ahead], .agg [int a2.Now, boo a2.Closed, lst 4 GPool.av a2.Pools, lst 1 fI a2.Bal, lst 11 GRoll.av a2.Rolls, lst 1 fI a2.Prices, lst 1 fI a2.Down, lst 8 GEnt.av a2.Ahead]] (fun y => y = boo r) := by
  induction n using Nat.strongRecOn generalizing a1 a2 r with
  | ind n ih =>
    cases n with
    | zero => rw [d_ref14_sameEnt] at h0; cases h0
    | succ n =>
    have hN : n < n + 1 := Nat.lt_succ_self n
    rw [d_ref14_sameEnt] at h0
    refine pp_of_pc (R0 := fun y H => Cv (frzH H) y (boo r)) ?_ (fun y H hc => ⟨_, rfl, pvB r, hc⟩)
    refine pcw (c := _) Tryz.func50 rfl rfl ?_; intro Q hret hnorm
    refine tc tbk 2 (.mk ?_)
    refine rse rfl rfl rfl (yl_box 1 .any rfl rfl rfl) ?_; rintro _ _ ⟨v3, -, rfl, rfl⟩
    refine rse rfl rfl rfl (yl_box 2 .any rfl rfl rfl) ?_; rintro _ _ ⟨v4, -, rfl, rfl⟩
    refine tr tbk 4 (.mk ?_)
    refine jn h0 [2, 3, 4] [1, 2] (fun (a : Bool) (k : Unit) => [(46, boo a)]) (fun a k => []) ⟨fun j5 h1 => ?_, ?_⟩
    refine tc tbk 5 (.mk ?_)
    refine nb tbk h1 fun x6 h1 => ?_
    refine tr tbk 1 (.mk ?_)
    cases x6
    replace h1 := cf h1
    refine tr tbk 4 (.mk ?_)
    obtain ⟨x7, e7, h1⟩ := bnd_e h1
    refine rst rfl rfl rfl (yv_to (y := boo x7) (yv_bneq rfl Tryz.underlying4 rfl rfl) (congrArg boo e7)) ?_
    refine tr tbk 2 (.mk ?_)
    cases x7
    replace h1 := cf h1
    refine tr tbk 2 (.mk ?_)
    refine rst rfl rfl rfl (yv_len_sl rfl Tryz.underlying39 rfl (lst_len _)) ?_
    refine tr tbk 2 (.mk ?_)
    refine rst rfl rfl rfl (yv_len_sl rfl Tryz.underlying39 rfl (lst_len _)) ?_
    refine nb tbk h1 fun x8 h1 => ?_
    refine tr tbk 2 (.mk ?_)
    cases x8
    replace h1 := cf h1
    refine tr tbk 2 (.mk ?_)
    refine rst rfl rfl rfl (yv_len_sl rfl Tryz.underlying40 rfl (lst_len _)) ?_
    refine tr tbk 2 (.mk ?_)
    refine rst rfl rfl rfl (yv_len_sl rfl Tryz.underlying40 rfl (lst_len _)) ?_
    refine nb tbk h1 fun x9 h1 => ?_
    refine tr tbk 2 (.mk ?_)
    cases x9
    replace h1 := cf h1
    refine tr tbk 2 (.mk ?_)
    refine rst rfl rfl rfl (yv_len_sl rfl Tryz.underlying27 rfl (lst_len _)) ?_
    refine tr tbk 2 (.mk ?_)
    refine rst rfl rfl rfl (yv_len_sl rfl Tryz.underlying27 rfl (lst_len _)) ?_
    refine nb tbk h1 fun x10 h1 => ?_
    refine tr tbk 2 (.mk ?_)
    exact lf h1 () leA
    replace h1 := ct h1
    refine tr tbk 9 (.mk ?_)
    exact lf h1 () leA
    replace h1 := ct h1
    refine tr tbk 18 (.mk ?_)
    exact lf h1 () leA
    replace h1 := ct h1
    refine tr tbk 27 (.mk ?_)
    exact lf h1 () leA
    replace h1 := ct h1
    refine tr tbk 34 (.mk ?_)
    exact lf h1 () leA
    rintro y0_1 _ h0
    cases y0_1
    replace h0 := cf h0
    refine tc tbk 7 (.mk ?_)
    refine jnE h0 [2, 3, 4] [1, 2] (fun (a : Unit) (k : Unit) => []) (fun a k => []) ⟨fun j11 h1 h0 => ?_, ?_⟩
    refine tc tbk 1 (.mk ?_)
    refine lp (fun n (a : Int) => d_ref14_sameEnt_L0 a1 a2 n a) (0 : Int) () h1 [2, 3, 4] [1, 2] (fun (a : Int) (k : Unit) => [(5, int a)]) (fun a k => []) (fun _ => rfl) ⟨leA, ?_⟩
    rintro n y1_1 _ hm h1
    replace h1 : d_ref14_sameEnt_L0 a1 a2 (n + 1) y1_1 = some _ := h1
    replace hN := Nat.lt_trans (Nat.lt_of_succ_le hm) hN
    rw [d_ref14_sameEnt_L0] at h1
    refine tc tbk 6 (.mk ?_)
    refine rst rfl rfl rfl (yv_len_sl rfl Tryz.underlying39 rfl (lst_len _)) ?_
    refine nb tbk h1 fun x12 h1 => ?_
    refine tr tbk 1 (.mk ?_)
    cases x12
    replace h1 := cf h1
    refine tc tbk 2 (.mk ?_)
    exact lfE h1 () leA
    replace h1 := ct h1
    refine tc tbk 5 (.mk ?_)
    refine c_drawE [0, 1, 0, 7, 15, 0, 32, 0, 224, 480, 1023, 2047] (fun i => bif Nat.beq i 0 then ([1]) else bif Nat.beq i 1 then ([1]) else bif Nat.beq i 5 then ([2]) else bif Nat.beq i 6 then ([2]) else []) (fun i => [1, 2]) (fun i => true) [0, 1, 2, 3, 4, 5, 6, 7, 8, 9, 10, 11] mixed (by kernel_rfl) ?_; intro K hK
    refine de_pure rfl rfl rfl rfl (fun H hH => yv_fieldAddr rfl fo42_2 rfl (.pt ((hH _ (by decide)).trans rfl) rfl rfl) (.pt _ _ _ _ _)) ?_
    refine de_pure rfl rfl rfl rfl (fun H hH => yv_load rfl sh39 rfl (.pt ((hH _ (by decide)).trans rfl) rfl rfl) rfl) ?_
    refine de_pure rfl rfl rfl rfl (fun H hH => yv_move rfl rfl) ?_
    obtain ⟨x13, e13, h1⟩ := bind_e h1
    refine de_pure rfl rfl rfl rfl (fun H hH => yv_ixT rfl Tryz.underlying39 sh69 rfl rfl e13) ?_
    refine de_pure rfl rfl rfl rfl (fun H hH => yv_load rfl sh69 rfl (.pp _) rfl) ?_
    refine de_pure rfl rfl rfl rfl (fun H hH => yv_fieldAddr rfl fo42_2 rfl (.pt ((hH _ (by decide)).trans rfl) rfl rfl) (.pt _ _ _ _ _)) ?_
    refine de_pure rfl rfl rfl rfl (fun H hH => yv_load rfl sh39 rfl (.pt ((hH _ (by decide)).trans rfl) rfl rfl) rfl) ?_
    refine de_pure rfl rfl rfl rfl (fun H hH => yv_move rfl rfl) ?_
    obtain ⟨x14, e14, h1⟩ := bind_e h1
    refine de_pure rfl rfl rfl rfl (fun H hH => yv_ixT rfl Tryz.underlying39 sh69 rfl rfl e14) ?_
    refine de_pure rfl rfl rfl rfl (fun H hH => yv_load rfl sh69 rfl (.pp _) rfl) ?_
    obtain ⟨x15, e15, h1⟩ := bind_e h1
    refine de_pure rfl rfl rfl rfl (fun H hH => yv_callP rfl rfl (.cons rfl (.cons rfl .nil)) cal88 (CvL.refl _) (d_ref11_Same_c e15)) ?_
    obtain ⟨x16, e16, h1⟩ := bnd_e h1
    refine de_pure rfl rfl rfl rfl (fun H hH => yv_not rfl rfl e16) ?_
    refine de_nil (hK _ ?_)
    cases x16
    replace h1 := cf h1
    refine tc tbk 5 (.mk ?_)
    refine ni tbk h1 fun x17 h1 => ?_
    refine tr tbk 2 (.mk ?_)
    exact bk x17 () h1 leA
    replace h1 := ct h1
    refine tc tbk 5 (.mk ?_)
    obtain ⟨c18, hX, hj⟩ := esc_e h1; subst hj; replace h0 := hX.trans (sel_r h0)
    obtain rfl := nxt_e h0
    refine w_ret (hret _ _ _ (.tmp rfl .nil) (fun _ _ h => h) ?_)
    exact .refl _
    rintro _ _ h0
    refine tc tbk 5 (.mk ?_)
    refine jnE h0 [2, 3, 4] [1, 2] (fun (a : Unit) (k : Unit) => []) (fun a k => []) ⟨fun j19 h1 h0 => ?_, ?_⟩
    refine tc tbk 1 (.mk ?_)
    refine lp (fun n (a : Int) => d_ref14_sameEnt_L1 a1 a2 n a) (0 : Int) () h1 [2, 3, 4] [1, 2] (fun (a : Int) (k : Unit) => [(6, int a)]) (fun a k => []) (fun _ => rfl) ⟨leA, ?_⟩
    rintro n y3_1 _ hm h1
    replace h1 : d_ref14_sameEnt_L1 a1 a2 (n + 1) y3_1 = some _ := h1
    replace hN := Nat.lt_trans (Nat.lt_of_succ_le hm) hN
    rw [d_ref14_sameEnt_L1] at h1
    refine tc tbk 6 (.mk ?_)
    refine rst rfl rfl rfl (yv_len_sl rfl Tryz.underlying40 rfl (lst_len _)) ?_
    refine nb tbk h1 fun x20 h1 => ?_
    refine tr tbk 1 (.mk ?_)
    cases x20
    replace h1 := cf h1
    refine tc tbk 2 (.mk ?_)
    exact lfE h1 () leA
    replace h1 := ct h1
    refine tc tbk 5 (.mk ?_)
    refine c_drawE [0, 1, 0, 7, 15, 31, 0, 64, 0, 448, 960, 2047, 4095] (fun i => bif Nat.beq i 0 then ([1]) else bif Nat.beq i 1 then ([1]) else bif Nat.beq i 6 then ([2]) else bif Nat.beq i 7 then ([2]) else []) (fun i => [1, 2]) (fun i => true) [0, 1, 2, 3, 4, 5, 6, 7, 8, 9, 10, 11, 12] mixed (by kernel_rfl) ?_; intro K hK
    refine de_pure rfl rfl rfl rfl (fun H hH => yv_fieldAddr rfl fo42_4 rfl (.pt ((hH _ (by decide)).trans rfl) rfl rfl) (.pt _ _ _ _ _)) ?_
    refine de_pure rfl rfl rfl rfl (fun H hH => yv_load rfl sh40 rfl (.pt ((hH _ (by decide)).trans rfl) rfl rfl) rfl) ?_
    refine de_pure rfl rfl rfl rfl (fun H hH => yv_move rfl rfl) ?_
    obtain ⟨x21, e21, h1⟩ := bind_e h1
    refine de_pure rfl rfl rfl rfl (fun H hH => yv_ixT rfl Tryz.underlying40 sh49 rfl rfl e21) ?_
    refine de_pure rfl rfl rfl rfl (fun H hH => yv_load rfl sh49 rfl (.pp _) rfl) ?_
    obtain ⟨x22, e22, h1⟩ := bind_e h1
    refine de_pure rfl rfl rfl rfl (fun H hH => yv_callP rfl rfl (.cons rfl .nil) cal89 (CvL.refl _) (d_ref14_Numbers_c e22)) ?_
    refine de_pure rfl rfl rfl rfl (fun H hH => yv_fieldAddr rfl fo42_4 rfl (.pt ((hH _ (by decide)).trans rfl) rfl rfl) (.pt _ _ _ _ _)) ?_
    refine de_pure rfl rfl rfl rfl (fun H hH => yv_load rfl sh40 rfl (.pt ((hH _ (by decide)).trans rfl) rfl rfl) rfl) ?_
    refine de_pure rfl rfl rfl rfl (fun H hH => yv_move rfl rfl) ?_
    obtain ⟨x23, e23, h1⟩ := bind_e h1
    refine de_pure rfl rfl rfl rfl (fun H hH => yv_ixT rfl Tryz.underlying40 sh49 rfl rfl e23) ?_
    refine de_pure rfl rfl rfl rfl (fun H hH => yv_load rfl sh49 rfl (.pp _) rfl) ?_
    obtain ⟨x24, e24, h1⟩ := bind_e h1
    refine de_pure rfl rfl rfl rfl (fun H hH => yv_callP rfl rfl (.cons rfl .nil) cal89 (CvL.refl _) (d_ref14_Numbers_c e24)) ?_
    obtain ⟨x25, e25, h1⟩ := bnd_e h1
    refine de_pure rfl rfl rfl rfl (fun H hH => yv_arneq (r' := x25) rfl Tryz.underlying126 sz3 c3 (by decide) rfl rfl (.cons (.int Tryz.underlying3) sh3 (.cons (.int Tryz.underlying3) sh3 (.cons (.int Tryz.underlying3) sh3 (.cons (.int Tryz.underlying3) sh3 (.cons (.int Tryz.underlying3) sh3 (.cons (.int Tryz.underlying3) sh3 (.cons (.int Tryz.underlying3) sh3 (.cons (.int Tryz.underlying3) sh3 (.cons (.int Tryz.underlying3) sh3 (.cons (.int Tryz.underlying3) sh3 (.cons (.int Tryz.underlying3) sh3 (.nil _)))))))))))) ((congrArg Bool.not (A11_Int.eqv (x22 : A11_Int) (x24 : A11_Int))).trans e25)) ?_
    refine de_nil (hK _ ?_)
    cases x25
    replace h1 := cf h1
    refine tc tbk 5 (.mk ?_)
    refine ni tbk h1 fun x26 h1 => ?_
    refine tr tbk 2 (.mk ?_)
    exact bk x26 () h1 leA
    replace h1 := ct h1
    refine tc tbk 5 (.mk ?_)
    obtain ⟨c27, hX, hj⟩ := esc_e h1; subst hj; replace h0 := hX.trans (sel_r h0)
    obtain rfl := nxt_e h0
    refine w_ret (hret _ _ _ (.tmp rfl .nil) (fun _ _ h => h) ?_)
    exact .refl _
    rintro _ _ h0
    refine tc tbk 5 (.mk ?_)
    refine jnE h0 [2, 3, 4] [1, 2] (fun (a : Unit) (k : Unit) => []) (fun a k => []) ⟨fun j28 h1 h0 => ?_, ?_⟩
    refine tc tbk 1 (.mk ?_)
    refine lp (fun n (a : Int) => d_ref14_sameEnt_L2 a1 a2 n a) (0 : Int) () h1 [2, 3, 4] [1, 2] (fun (a : Int) (k : Unit) => [(7, int a)]) (fun a k => []) (fun _ => rfl) ⟨leA, ?_⟩
    rintro n y5_1 _ hm h1
    replace h1 : d_ref14_sameEnt_L2 a1 a2 (n + 1) y5_1 = some _ := h1
    replace hN := Nat.lt_trans (Nat.lt_of_succ_le hm) hN
    rw [d_ref14_sameEnt_L2] at h1
    refine tc tbk 6 (.mk ?_)
    refine rst rfl rfl rfl (yv_len_sl rfl Tryz.underlying27 rfl (lst_len _)) ?_
    refine nb tbk h1 fun x29 h1 => ?_
    refine tr tbk 1 (.mk ?_)
    cases x29
    replace h1 := cf h1
    refine tc tbk 2 (.mk ?_)
    exact lfE h1 () leA
    replace h1 := ct h1
    refine tc tbk 5 (.mk ?_)
    refine c_drawE [0, 1, 0, 7, 15, 0, 32, 0, 224, 480, 1023, 2047] (fun i => bif Nat.beq i 0 then ([1]) else bif Nat.beq i 1 then ([1]) else bif Nat.beq i 5 then ([2]) else bif Nat.beq i 6 then ([2]) else []) (fun i => [1, 2]) (fun i => true) [0, 1, 2, 3, 4, 5, 6, 7, 8, 9, 10, 11] mixed (by kernel_rfl) ?_; intro K hK
    refine de_pure rfl rfl rfl rfl (fun H hH => yv_fieldAddr rfl fo42_7 rfl (.pt ((hH _ (by decide)).trans rfl) rfl rfl) (.pt _ _ _ _ _)) ?_
    refine de_pure rfl rfl rfl rfl (fun H hH => yv_load rfl sh27 rfl (.pt ((hH _ (by decide)).trans rfl) rfl rfl) rfl) ?_
    refine de_pure rfl rfl rfl rfl (fun H hH => yv_move rfl rfl) ?_
    obtain ⟨x30, e30, h1⟩ := bind_e h1
    refine de_pure rfl rfl rfl rfl (fun H hH => yv_to (y := .pp [int x30.Now, boo x30.Closed, lst 4 GPool.av x30.Pools, lst 1 fI x30.Bal, lst 11 GRoll.av x30.Rolls, lst 1 fI x30.Prices, lst 1 fI x30.Down, lst 8 GEnt.av x30.Ahead]) (yv_ixT rfl Tryz.underlying27 sh42 rfl rfl e30) (congrArg AV.pp (GEnt.av_eq x30))) ?_
    refine de_pure rfl rfl rfl rfl (fun H hH => yv_load rfl sh42 rfl (.pp _) rfl) ?_
    refine de_pure rfl rfl rfl rfl (fun H hH => yv_fieldAddr rfl fo42_7 rfl (.pt ((hH _ (by decide)).trans rfl) rfl rfl) (.pt _ _ _ _ _)) ?_
    refine de_pure rfl rfl rfl rfl (fun H hH => yv_load rfl sh27 rfl (.pt ((hH _ (by decide)).trans rfl) rfl rfl) rfl) ?_
    refine de_pure rfl rfl rfl rfl (fun H hH => yv_move rfl rfl) ?_
    obtain ⟨x31, e31, h1⟩ := bind_e h1
    refine de_pure rfl rfl rfl rfl (fun H hH => yv_to (y := .pp [int x31.Now, boo x31.Closed, lst 4 GPool.av x31.Pools, lst 1 fI x31.Bal, lst 11 GRoll.av x31.Rolls, lst 1 fI x31.Prices, lst 1 fI x31.Down, lst 8 GEnt.av x31.Ahead]) (yv_ixT rfl Tryz.underlying27 sh42 rfl rfl e31) (congrArg AV.pp (GEnt.av_eq x31))) ?_
    refine de_pure rfl rfl rfl rfl (fun H hH => yv_load rfl sh42 rfl (.pp _) rfl) ?_
    obtain ⟨x32, e32, h1⟩ := bind_e h1
    refine de_pure rfl rfl rfl rfl (fun H hH => yv_callP rfl rfl (.cons rfl (.cons rfl .nil)) cal50 (CvL.refl _) (ih _ hN e32)) ?_
    obtain ⟨x33, e33, h1⟩ := bnd_e h1
    refine de_pure rfl rfl rfl rfl (fun H hH => yv_not rfl rfl e33) ?_
    refine de_nil (hK _ ?_)
    cases x33
    replace h1 := cf h1
    refine tc tbk 5 (.mk ?_)
    refine ni tbk h1 fun x34 h1 => ?_
    refine tr tbk 2 (.mk ?_)
    exact bk x34 () h1 leA
    replace h1 := ct h1
    refine tc tbk 5 (.mk ?_)
    obtain ⟨c35, hX, hj⟩ := esc_e h1; subst hj; replace h0 := hX.trans (sel_r h0)
    obtain rfl := nxt_e h0
    refine w_ret (hret _ _ _ (.tmp rfl .nil) (fun _ _ h => h) ?_)
    exact .refl _
    rintro _ _ h0
    refine tc tbk 1 (.mk ?_)
    refine jn h0 [] [] (fun (a : Bool) (k : Unit) => [(4, boo a)]) (fun a k => []) ⟨fun j36 h1 => ?_, ?_⟩
    refine tc tbk 5 (.mk ?_)
    obtain ⟨x37, e37, h1⟩ := bind_e h1
    refine rst rfl rfl rfl (yv_callP rfl rfl (.cons rfl (.cons rfl .nil)) cal86 (CvL.refl _) (d_ref04_SameInts_c e37)) ?_
    refine tr tbk 1 (.mk ?_)
    cases x37
    replace h1 := cf h1
    refine tr tbk 15 (.mk ?_)
    exact lf h1 () leA
    replace h1 := ct h1
    refine tr tbk 4 (.mk ?_)
    obtain ⟨x38, e38, h1⟩ := bind_e h1
    refine rst rfl rfl rfl (yv_callP rfl rfl (.cons rfl (.cons rfl .nil)) cal86 (CvL.refl _) (d_ref04_SameInts_c e38)) ?_
    refine tr tbk 2 (.mk ?_)
    cases x38
    replace h1 := cf h1
    refine tr tbk 8 (.mk ?_)
    exact lf h1 () leA
    replace h1 := ct h1
    refine tr tbk 4 (.mk ?_)
    obtain ⟨x39, e39, h1⟩ := bind_e h1
    refine rst rfl rfl rfl (yv_callP rfl rfl (.cons rfl (.cons rfl .nil)) cal86 (CvL.refl _) (d_ref04_SameInts_c e39)) ?_
    refine tr tbk 3 (.mk ?_)
    exact lf h1 () leA
    rintro y7_1 _ h0
    obtain rfl := nxt_e h0
    refine w_ret (hret _ _ _ (.tmp rfl .nil) (fun _ _ h => h) ?_)
    exact .refl _
    replace h0 := ct h0
    refine tc tbk 5 (.mk ?_)
    obtain rfl := nxt_e h0
    refine w_ret (hret _ _ _ (.tmp rfl .nil) (fun _ _ h => h) ?_)
    exact .refl _
def d_ref14_Same_L0 (a1 : GState) (a2 : GState) : Nat → Int → Option ((Unit) ⊕ (Bool))
  | 0, _ => none
  | n + 1, y1_1 =>
    bnd (decide (y1_1 < (a1.Ents.length : Int))) fun x13 =>
    cond x13 ((ix a1.Ents y1_1).bind fun x14 =>
    (ix a2.Ents y1_1).bind fun x15 =>
    (d_ref14_sameEnt n x14 x15).bind fun x16 =>
    bnd (!x16) fun x17 =>
    cond x17 (esc (some ((false : Bool)))) (bnd (w64 (y1_1 + 1)) fun x18 =>
    d_ref14_Same_L0 a1 a2 n (x18 : Int))) (brk ())
def d_ref14_Same (n : Nat) (a1 : GState) (a2 : GState) : Option (Bool) :=
(show Option (Bool) from
(d_ref04_Same n a1.Master a2.Master).bind fun x6 =>
bnd (!x6) fun x7 =>
cond x7 (some (true : Bool)) (bnd (decide ((a1.Ents.length : Int) ≠ (a2.Ents.length : Int))) fun x8 =>
cond x8 (some (true : Bool)) (bnd (decide (a1.Done ≠ a2.Done)) fun x9 =>
cond x9 (some (true : Bool)) ((d_ref14_samePapers n a1 a2).bind fun x10 =>
bnd (!x10) fun x11 =>
some (x11 : Bool))))).bind <| fun y0_1 =>
cond y0_1 (some ((false : Bool))) ((show Option ((Unit) ⊕ (Bool)) from
d_ref14_Same_L0 a1 a2 n (0 : Int)).bind <| sel <| fun _ =>
some ((true : Bool)))
theorem d_ref14_Same_c {n : Nat} {a1 : GState} {a2 : GState} {r : Bool} (h0 : d_ref14_Same n a1 a2 = some r) : PP Tryz.prog 20 [.agg (GState.av a1), .agg (GState.av a2)] (fun y => y = boo r) := by
  unfold d_ref14_Same at h0
  refine pp_of_pc (R0 := fun y H => Cv (frzH H) y (boo r)) ?_ (fun y H hc => ⟨_, rfl, pvB r, hc⟩)
  refine pcw (c := _) Tryz.func20 rfl rfl ?_; intro Q hret hnorm
  refine tc tbk 2 (.mk ?_)
  refine rse rfl rfl rfl (yl_box 1 .any rfl rfl rfl) ?_; rintro _ _ ⟨v3, -, rfl, rfl⟩
  refine rse rfl rfl rfl (yl_box 2 .any rfl rfl rfl) ?_; rintro _ _ ⟨v4, -, rfl, rfl⟩
  refine tr tbk 4 (.mk ?_)
  refine jn h0 [2, 3, 4] [1, 2] (fun (a : Bool) (k : Unit) => [(33, boo a)]) (fun a k => []) ⟨fun j5 h1 => ?_, ?_⟩
  refine tc tbk 5 (.mk ?_)
  obtain ⟨x6, e6, h1⟩ := bind_e h1
  refine rst rfl rfl rfl (yv_callP rfl rfl (.cons rfl (.cons rfl .nil)) cal48 (CvL.refl _) (d_ref04_Same_c e6)) ?_
  refine nb tbk h1 fun x7 h1 => ?_
  refine tr tbk 1 (.mk ?_)
  cases x7
  replace h1 := cf h1
  refine tr tbk 2 (.mk ?_)
  refine rst rfl rfl rfl (yv_len_sl rfl Tryz.underlying27 rfl (lst_len _)) ?_
  refine tr tbk 2 (.mk ?_)
  refine rst rfl rfl rfl (yv_len_sl rfl Tryz.underlying27 rfl (lst_len _)) ?_
  refine nb tbk h1 fun x8 h1 => ?_
  refine tr tbk 2 (.mk ?_)
  cases x8
  replace h1 := cf h1
  refine tr tbk 4 (.mk ?_)
  refine nb tbk h1 fun x9 h1 => ?_
  refine tr tbk 2 (.mk ?_)
  cases x9
  replace h1 := cf h1
  refine tr tbk 2 (.mk ?_)
  obtain ⟨x10, e10, h1⟩ := bind_e h1
  refine rst rfl rfl rfl (yv_callP rfl rfl (.cons rfl (.cons rfl .nil)) cal49 (CvL.refl _) (d_ref14_samePapers_c e10)) ?_
  refine nb tbk h1 fun x11 h1 => ?_
  refine tr tbk 2 (.mk ?_)
  exact lf h1 () leA
  replace h1 := ct h1
  refine tr tbk 6 (.mk ?_)
  exact lf h1 () leA
  replace h1 := ct h1
  refine tr tbk 13 (.mk ?_)
  exact lf h1 () leA
  replace h1 := ct h1
  refine tr tbk 22 (.mk ?_)
  exact lf h1 () leA
  rintro y0_1 _ h0
  cases y0_1
  replace h0 := cf h0
  refine tc tbk 7 (.mk ?_)
  refine jnE h0 [4] [] (fun (a : Unit) (k : Unit) => []) (fun a k => []) ⟨fun j12 h1 h0 => ?_, ?_⟩
  refine tc tbk 1 (.mk ?_)
  refine lp (fun n (a : Int) => d_ref14_Same_L0 a1 a2 n a) (0 : Int) () h1 [2, 3, 4] [1, 2] (fun (a : Int) (k : Unit) => [(5, int a)]) (fun a k => []) (fun _ => rfl) ⟨leA, ?_⟩
  rintro n y1_1 _ hm h1
  replace h1 : d_ref14_Same_L0 a1 a2 (n + 1) y1_1 = some _ := h1
  rw [d_ref14_Same_L0] at h1
  refine tc tbk 6 (.mk ?_)
  refine rst rfl rfl rfl (yv_len_sl rfl Tryz.underlying27 rfl (lst_len _)) ?_
  refine nb tbk h1 fun x13 h1 => ?_
  refine tr tbk 1 (.mk ?_)
  cases x13
  replace h1 := cf h1
  refine tc tbk 2 (.mk ?_)
  exact lfE h1 () leA
  replace h1 := ct h1
  refine tc tbk 5 (.mk ?_)
  refine c_drawE [0, 1, 0, 7, 15, 0, 32, 0, 224, 480, 1023, 2047] (rl [(0, [1]), (1, [1]), (5, [2]), (6, [2])] []) (fun i => [1, 2]) (fun i => true) [0, 1, 2, 3, 4, 5, 6, 7, 8, 9, 10, 11] mixed (by kernel_rfl) ?_; intro K hK
  refine eF fo32_1 ?_
  refine eL sh27 ?_
  refine eM ?_
  obtain ⟨x14, e14, h1⟩ := bind_e h1
  refine eP (fun H hH => yv_to (y := .pp [int x14.Now, boo x14.Closed, lst 4 GPool.av x14.Pools, lst 1 fI x14.Bal, lst 11 GRoll.av x14.Rolls, lst 1 fI x14.Prices, lst 1 fI x14.Down, lst 8 GEnt.av x14.Ahead]) (yv_ixT rfl Tryz.underlying27 sh42 rfl rfl e14) (congrArg AV.pp (GEnt.av_eq x14))) ?_
  refine eP (fun H hH => yv_load rfl sh42 rfl (.pp _) rfl) ?_
  refine eF fo32_1 ?_
  refine eL sh27 ?_
  refine eM ?_
  obtain ⟨x15, e15, h1⟩ := bind_e h1
  refine eP (fun H hH => yv_to (y := .pp [int x15.Now, boo x15.Closed, lst 4 GPool.av x15.Pools, lst 1 fI x15.Bal, lst 11 GRoll.av x15.Rolls, lst 1 fI x15.Prices, lst 1 fI x15.Down, lst 8 GEnt.av x15.Ahead]) (yv_ixT rfl Tryz.underlying27 sh42 rfl rfl e15) (congrArg AV.pp (GEnt.av_eq x15))) ?_
  refine eP (fun H hH => yv_load rfl sh42 rfl (.pp _) rfl) ?_
  obtain ⟨x16, e16, h1⟩ := bind_e h1
  refine eP (fun H hH => yv_callP rfl rfl (.cons rfl (.cons rfl .nil)) cal50 (CvL.refl _) (d_ref14_sameEnt_c e16)) ?_
  obtain ⟨x17, e17, h1⟩ := bnd_e h1
  refine eP (fun H hH => yv_not rfl rfl e17) ?_
  refine de_nil (hK _ ?_)
  cases x17
  replace h1 := cf h1
  refine tc tbk 5 (.mk ?_)
  refine ni tbk h1 fun x18 h1 => ?_
  refine tr tbk 2 (.mk ?_)
  exact bk x18 () h1 leA
  replace h1 := ct h1
  refine tc tbk 5 (.mk ?_)
  obtain ⟨c19, hX, hj⟩ := esc_e h1; subst hj; replace h0 := hX.trans (sel_r h0)
  obtain rfl := nxt_e h0
  refine w_ret (hret _ _ _ (.tmp rfl .nil) (fun _ _ h => h) ?_)
  exact .refl _
  rintro _ _ h0
  refine tc tbk 4 (.mk ?_)
  obtain rfl := nxt_e h0
  refine w_ret (hret _ _ _ (.tmp rfl .nil) (fun _ _ h => h) ?_)
  exact .refl _
  replace h0 := ct h0
  refine tc tbk 5 (.mk ?_)
  obtain rfl := nxt_e h0
  refine w_ret (hret _ _ _ (.tmp rfl .nil) (fun _ _ h => h) ?_)
  exact .refl _
def d_ref14_Worth (n : Nat) (a1 : GState) (a2 : Int) (a3 : Int) : Option (GLayer) :=
(d_ref14_worth n a1 a2 a3).bind fun x6 =>
some ((x6.1 : GLayer))
theorem d_ref14_Worth_c {n : Nat} {a1 : GState} {a2 : Int} {a3 : Int} {r : GLayer} (h0 : d_ref14_Worth n a1 a2 a3 = some r) : PP Tryz.prog 18 [.agg (GState.av a1), int a2, int a3] (fun y => y = .agg (GLayer.av r)) := by
  unfold d_ref14_Worth at h0
  refine pp_of_pc (R0 := fun y H => Cv (frzH H) y (.agg (GLayer.av r))) ?_ (fun y H hc => ⟨_, rfl, (fun (a : GLayer) => PV.agg (GLayer.pvc a)) r, hc⟩)
  refine pcw (c := _) Tryz.func18 rfl rfl ?_; intro Q hret hnorm
  refine tc tbk 2 (.mk ?_)
  refine rse rfl rfl rfl (yl_box 1 .any rfl rfl rfl) ?_; rintro _ _ ⟨v4, -, rfl, rfl⟩
  refine rse rfl rfl rfl (yl_alloc 2 .any rfl z46 rfl) ?_; rintro _ _ ⟨v5, -, rfl, rfl⟩
  refine tr tbk 6 (.mk ?_)
  obtain ⟨x6, e6, h0⟩ := bind_e h0
  refine rst rfl rfl rfl (yv_callP rfl rfl (.cons rfl (.cons rfl (.cons rfl .nil))) cal47 (CvL.refl _) (d_ref14_worth_c e6)) ?_
  refine tr tbk 3 (.mk ?_)
  refine rse rfl rfl rfl (yl_alloc 3 .any rfl z46 rfl) ?_; rintro _ _ ⟨v7, -, rfl, rfl⟩
  refine sS ⟨46, 3, true, true, v7, [[int x6.1.Qty, int x6.1.Value, int x6.1.Profit]]⟩ sh46 ?_
  refine tr tbk 5 (.mk ?_)
  refine sS ⟨46, 3, true, true, v5, [[int x6.1.Qty, int x6.1.Value, int x6.1.Profit]]⟩ sh46 ?_
  refine tr tbk 1 (.mk ?_)
  obtain rfl := nxt_e h0
  refine w_ret (hret _ _ _ (.cell rfl (.pt rfl rfl rfl) sh46 rfl .nil) (fun _ _ h => h) ?_)
  exact .refl _
def d_law20_awake (n : Nat)  : Option (Bool) :=
(d_law20_stocked n 1 3 30).bind fun x1 =>
(d_ship_Do n x1 (⟨12, 0, 1, 0, 1, 3, 50, 0, []⟩ : GOp)).bind fun x2 =>
(d_ship_Do n x2.1 (⟨13, 0, 0, 1, 0, 3, 0, 0, []⟩ : GOp)).bind fun x4 =>
(d_ship_Do n x4.1 (⟨13, 0, 0, 0, 0, 1, 0, 0, []⟩ : GOp)).bind fun x6 =>
(show Option (Bool) from
bnd (decide (x2.2 = 0)) fun x9 =>
cond x9 (bnd (decide ((x2.1.Transits.length : Int) = 1)) fun x10 =>
cond x10 ((ix x2.1.Transits 0).bind fun x11 =>
bnd (decide (x11.Profit = 20)) fun x12 =>
cond x12 (bnd (decide (x4.2 = 0)) fun x13 =>
cond x13 ((d_ref14_Worth n x4.1 1 1).bind fun x14 =>
bnd (decide (x14.Profit = 20)) fun x15 =>
cond x15 (bnd (decide (x6.2 = 5)) fun x16 =>
cond x16 (bnd (decide ((x4.1.Ents.length : Int) = 2)) fun x17 =>
cond x17 ((ix x4.1.Ents 1).bind fun x18 =>
(ix x18.Bal 12).bind fun x19 =>
bnd (decide (x19 = 0)) fun x20 =>
some (x20 : Bool)) (some (false : Bool))) (some (false : Bool))) (some (false : Bool))) (some (false : Bool))) (some (false : Bool))) (some (false : Bool))) (some (false : Bool))).bind <| fun y0_1 =>
some ((y0_1 : Bool))
theorem d_law20_awake_c {n : Nat}  {r : Bool} (h0 : d_law20_awake n  = some r) : PP Tryz.prog 35 [] (fun y => y = boo r) := by
  unfold d_law20_awake at h0
  refine pp_of_pc (R0 := fun y H => Cv (frzH H) y (boo r)) ?_ (fun y H hc => ⟨_, rfl, pvB r, hc⟩)
  refine pcw (c := _) Tryz.func35 rfl rfl ?_; intro Q hret hnorm
  refine tc tbk 6 (.mk ?_)
  obtain ⟨x1, e1, h0⟩ := bind_e h0
  refine rst rfl rfl rfl (yv_callP rfl rfl (.cons rfl (.cons rfl (.cons rfl .nil))) cal33 (CvL.refl _) (d_law20_stocked_c e1)) ?_
  refine rst rfl rfl rfl (yv_build (cs := [int 12, int 0, int 1, int 0, int 1, int 3, int 50, int 0, .sc (.slice none 0 0)]) (ps := [(0, _), (2, _), (4, _), (5, _), (6, _)]) rfl pl38 z38 rfl (.cons rfl (.cons rfl (.cons rfl (.cons rfl (.cons rfl .nil))))) (by kernel_rfl)) ?_
  obtain ⟨x2, e2, h0⟩ := bind_e h0
  refine rst rfl rfl rfl (yv_callP rfl rfl (.cons rfl (.cons rfl .nil)) cal34 (.cons (.refl _) (.cons (CvL.agg (.cons (.refl _) (.cons (.refl _) (.cons (.refl _) (.cons (.refl _) (.cons (.refl _) (.cons (.refl _) (.cons (.refl _) (.cons (.refl _) (.cons (.nil _) .nil)))))))))) .nil)) (d_ship_Do_c e2)) ?_
  refine tr tbk 3 (.mk ?_)
  refine rse rfl rfl rfl (yl_alloc 1 .any rfl z32 rfl) ?_; rintro _ _ ⟨v3, -, rfl, rfl⟩
  refine sS ⟨32, 10, true, true, v3, [[int x2.1.Master.Entities, int x2.1.Master.Periods, lst 1 fI x2.1.Master.Weights, lst 1 (fL 1 fI) x2.1.Master.Methods, lst 1 (fL 1 fI) x2.1.Master.Costs, lst 8 GEnt.av x2.1.Ents, lst 8 GReceipt.av x2.1.Receipts, lst 9 GSale.av x2.1.Sales, lst 6 GTransit.av x2.1.Transits, int x2.1.Done]]⟩ sh32 ?_
  refine tr tbk 5 (.mk ?_)
  refine rst rfl rfl rfl (yv_build (cs := [int 13, int 0, int 0, int 1, int 0, int 3, int 0, int 0, .sc (.slice none 0 0)]) (ps := [(0, _), (3, _), (5, _)]) rfl pl38 z38 rfl (.cons rfl (.cons rfl (.cons rfl .nil))) (by kernel_rfl)) ?_
  obtain ⟨x4, e4, h0⟩ := bind_e h0
  refine rst rfl rfl rfl (yv_callP rfl rfl (.cons rfl (.cons rfl .nil)) cal34 (.cons (.refl _) (.cons (CvL.agg (.cons (.refl _) (.cons (.refl _) (.cons (.refl _) (.cons (.refl _) (.cons (.refl _) (.cons (.refl _) (.cons (.refl _) (.cons (.refl _) (.cons (.nil _) .nil)))))))))) .nil)) (d_ship_Do_c e4)) ?_
  refine tr tbk 3 (.mk ?_)
  refine rse rfl rfl rfl (yl_alloc 2 .any rfl z32 rfl) ?_; rintro _ _ ⟨v5, -, rfl, rfl⟩
  refine sS ⟨32, 10, true, true, v5, [[int x4.1.Master.Entities, int x4.1.Master.Periods, lst 1 fI x4.1.Master.Weights, lst 1 (fL 1 fI) x4.1.Master.Methods, lst 1 (fL 1 fI) x4.1.Master.Costs, lst 8 GEnt.av x4.1.Ents, lst 8 GReceipt.av x4.1.Receipts, lst 9 GSale.av x4.1.Sales, lst 6 GTransit.av x4.1.Transits, int x4.1.Done]]⟩ sh32 ?_
  refine tr tbk 5 (.mk ?_)
  refine rst rfl rfl rfl (yv_build (cs := [int 13, int 0, int 0, int 0, int 0, int 1, int 0, int 0, .sc (.slice none 0 0)]) (ps := [(0, _), (5, _)]) rfl pl38 z38 rfl (.cons rfl (.cons rfl .nil)) (by kernel_rfl)) ?_
  obtain ⟨x6, e6, h0⟩ := bind_e h0
  refine rst rfl rfl rfl (yv_callP rfl rfl (.cons rfl (.cons rfl .nil)) cal34 (.cons (.refl _) (.cons (CvL.agg (.cons (.refl _) (.cons (.refl _) (.cons (.refl _) (.cons (.refl _) (.cons (.refl _) (.cons (.refl _) (.cons (.refl _) (.cons (.refl _) (.cons (.nil _) .nil)))))))))) .nil)) (d_ship_Do_c e6)) ?_
  refine tr tbk 3 (.mk ?_)
  refine rse rfl rfl rfl (yl_alloc 3 .any rfl z32 rfl) ?_; rintro _ _ ⟨v7, -, rfl, rfl⟩
  refine sS ⟨32, 10, true, true, v7, [[int x6.1.Master.Entities, int x6.1.Master.Periods, lst 1 fI x6.1.Master.Weights, lst 1 (fL 1 fI) x6.1.Master.Methods, lst 1 (fL 1 fI) x6.1.Master.Costs, lst 8 GEnt.av x6.1.Ents, lst 8 GReceipt.av x6.1.Receipts, lst 9 GSale.av x6.1.Sales, lst 6 GTransit.av x6.1.Transits, int x6.1.Done]]⟩ sh32 ?_
  refine tr tbk 3 (.mk ?_)
  refine jn h0 [] [] (fun (a : Bool) (k : Unit) => [(0, boo a)]) (fun a k => []) ⟨fun j8 h1 => ?_, ?_⟩
  refine tc tbk 2 (.mk ?_)
  refine nb tbk h1 fun x9 h1 => ?_
  refine tr tbk 1 (.mk ?_)
  cases x9
  replace h1 := cf h1
  refine tr tbk 45 (.mk ?_)
  exact lf h1 () leA
  replace h1 := ct h1
  refine tr tbk 2 (.mk ?_)
  refine rst rfl rfl rfl (yv_len_sl rfl Tryz.underlying30 rfl (lst_len _)) ?_
  refine nb tbk h1 fun x10 h1 => ?_
  refine tr tbk 2 (.mk ?_)
  cases x10
  replace h1 := cf h1
  refine tr tbk 39 (.mk ?_)
  exact lf h1 () leA
  replace h1 := ct h1
  refine tr tbk 2 (.mk ?_)
  obtain ⟨x11, e11, h1⟩ := bind_e h1
  refine rst rfl rfl rfl (yv_ixT rfl Tryz.underlying30 sh99 rfl rfl e11) ?_
  refine tr tbk 2 (.mk ?_)
  refine nb tbk h1 fun x12 h1 => ?_
  refine tr tbk 2 (.mk ?_)
  cases x12
  replace h1 := cf h1
  refine tr tbk 31 (.mk ?_)
  exact lf h1 () leA
  replace h1 := ct h1
  refine tr tbk 1 (.mk ?_)
  refine nb tbk h1 fun x13 h1 => ?_
  refine tr tbk 2 (.mk ?_)
  cases x13
  replace h1 := cf h1
  refine tr tbk 27 (.mk ?_)
  exact lf h1 () leA
  replace h1 := ct h1
  refine tr tbk 1 (.mk ?_)
  obtain ⟨x14, e14, h1⟩ := bind_e h1
  refine rst rfl rfl rfl (yv_callP rfl rfl (.cons rfl (.cons rfl (.cons rfl .nil))) cal18 (CvL.refl _) (d_ref14_Worth_c e14)) ?_
  refine tr tbk 1 (.mk ?_)
  refine nb tbk h1 fun x15 h1 => ?_
  refine tr tbk 2 (.mk ?_)
  cases x15
  replace h1 := cf h1
  refine tr tbk 21 (.mk ?_)
  exact lf h1 () leA
  replace h1 := ct h1
  refine tr tbk 1 (.mk ?_)
  refine nb tbk h1 fun x16 h1 => ?_
  refine tr tbk 2 (.mk ?_)
  cases x16
  replace h1 := cf h1
  refine tr tbk 17 (.mk ?_)
  exact lf h1 () leA
  replace h1 := ct h1
  refine tr tbk 2 (.mk ?_)
  refine rst rfl rfl rfl (yv_len_sl rfl Tryz.underlying27 rfl (lst_len _)) ?_
  refine nb tbk h1 fun x17 h1 => ?_
  refine tr tbk 2 (.mk ?_)
  cases x17
  replace h1 := cf h1
  refine tr tbk 11 (.mk ?_)
  exact lf h1 () leA
  replace h1 := ct h1
  refine tr tbk 2 (.mk ?_)
  obtain ⟨x18, e18, h1⟩ := bind_e h1
  refine rst rfl rfl rfl (yv_to (y := .pp [int x18.Now, boo x18.Closed, lst 4 GPool.av x18.Pools, lst 1 fI x18.Bal, lst 11 GRoll.av x18.Rolls, lst 1 fI x18.Prices, lst 1 fI x18.Down, lst 8 GEnt.av x18.Ahead]) (yv_ixT rfl Tryz.underlying27 sh42 rfl rfl e18) (congrArg AV.pp (GEnt.av_eq x18))) ?_
  refine tr tbk 2 (.mk ?_)
  obtain ⟨x19, e19, h1⟩ := bind_e h1
  refine rst rfl rfl rfl (yv_ixT rfl Tryz.underlying23 sh3 rfl rfl e19) ?_
  refine tr tbk 1 (.mk ?_)
  refine nb tbk h1 fun x20 h1 => ?_
  refine tr tbk 3 (.mk ?_)
  exact lf h1 () leA
  rintro y0_1 _ h0
  obtain rfl := nxt_e h0
  refine w_ret (hret _ _ _ (.tmp rfl .nil) (fun _ _ h => h) ?_)
  exact .refl _
def d_law20_ShipErrors (n : Nat) (a1 : Int) (a2 : Int) : Option (Bool) :=
(d_law00_Place a2 20).bind fun x3 =>
bnd (w64 (1 + x3)) fun x4 =>
(d_law20_stocked n 1 5 50).bind fun x5 =>
bnd (w64 (5 + x4)) fun x7 =>
(d_law00_Place a1 6).bind fun x9 =>
(show Option (Int × GOp) from
bnd (decide (x9 = 1)) fun x11 =>
cond x11 (some ((4 : Int), ((⟨12, 0, 1, 0, 2, 1, 0, 0, []⟩ : GOp) : GOp))) (bnd (decide (x9 = 2)) fun x12 =>
cond x12 (some ((4 : Int), ((⟨12, 3, 1, 0, 1, 1, 0, 0, []⟩ : GOp) : GOp))) (bnd (decide (x9 = 3)) fun x13 =>
cond x13 (some ((4 : Int), ((⟨12, 0, 4, 0, 1, 1, 0, 0, []⟩ : GOp) : GOp))) (bnd (decide (x9 = 4)) fun x14 =>
cond x14 (some ((4 : Int), ((⟨13, 0, 0, 0, 0, 1, 0, x4, []⟩ : GOp) : GOp))) (bnd (decide (x9 = 5)) fun x15 =>
cond x15 (some ((5 : Int), ((⟨12, 1, 1, 0, 0, x4, 0, 0, []⟩ : GOp) : GOp))) (some ((5 : Int), ((⟨12, 0, 1, 0, 1, x7, 0, 0, []⟩ : GOp) : GOp)))))))).bind <| p2 fun (y0_1 : Int) (y0_2 : GOp) =>
(d_ship_Do n x5 y0_2).bind fun x16 =>
(show Option (Bool) from
bnd (decide (x16.2 = y0_1)) fun x19 =>
cond x19 ((d_ref14_Same n x5 x16.1).bind fun x20 =>
cond x20 ((d_law20_awake n).bind fun x21 =>
some (x21 : Bool)) (some (false : Bool))) (some (false : Bool))).bind <| fun y1_1 =>
some ((y1_1 : Bool))
theorem d_law20_ShipErrors_c {n : Nat} {a1 : Int} {a2 : Int} {r : Bool} (h0 : d_law20_ShipErrors n a1 a2 = some r) : PP Tryz.prog 14 [int a1, int a2] (fun y => y = boo r) := by
  unfold d_law20_ShipErrors at h0
  refine pp_of_pc (R0 := fun y H => Cv (frzH H) y (boo r)) ?_ (fun y H hc => ⟨_, rfl, pvB r, hc⟩)
  refine pcw (c := _) Tryz.func14 rfl rfl ?_; intro Q hret hnorm
  refine tc tbk 7 (.mk ?_)
  obtain ⟨x3, e3, h0⟩ := bind_e h0
  refine rst rfl rfl rfl (yv_callP rfl rfl (.cons rfl (.cons rfl .nil)) cal15 (CvL.refl _) (d_law00_Place_c e3)) ?_
  refine ni tbk h0 fun x4 h0 => ?_
  refine tr tbk 4 (.mk ?_)
  obtain ⟨x5, e5, h0⟩ := bind_e h0
  refine rst rfl rfl rfl (yv_callP rfl rfl (.cons rfl (.cons rfl (.cons rfl .nil))) cal33 (CvL.refl _) (d_law20_stocked_c e5)) ?_
  refine rse rfl rfl rfl (yl_alloc 1 .any rfl z32 rfl) ?_; rintro _ _ ⟨v6, -, rfl, rfl⟩
  refine sS ⟨32, 10, true, true, v6, [[int x5.Master.Entities, int x5.Master.Periods, lst 1 fI x5.Master.Weights, lst 1 (fL 1 fI) x5.Master.Methods, lst 1 (fL 1 fI) x5.Master.Costs, lst 8 GEnt.av x5.Ents, lst 8 GReceipt.av x5.Receipts, lst 9 GSale.av x5.Sales, lst 6 GTransit.av x5.Transits, int x5.Done]]⟩ sh32 ?_
  refine tr tbk 4 (.mk ?_)
  refine ni tbk h0 fun x7 h0 => ?_
  refine rst rfl rfl rfl (yv_build (cs := [int 12, int 0, int 1, int 0, int 1, int x7, int 0, int 0, .sc (.slice none 0 0)]) (ps := [(0, _), (2, _), (4, _), (5, _)]) rfl pl38 z38 rfl (.cons rfl (.cons rfl (.cons rfl (.cons rfl .nil)))) (by kernel_rfl)) ?_
  refine rse rfl rfl rfl (yl_alloc 2 .any rfl z38 rfl) ?_; rintro _ _ ⟨v8, -, rfl, rfl⟩
  refine sS ⟨38, 9, true, true, v8, [[int 12, int 0, int 1, int 0, int 1, int x7, int 0, int 0, .sc (.slice none 0 0)]]⟩ sh38 ?_
  refine tr tbk 6 (.mk ?_)
  obtain ⟨x9, e9, h0⟩ := bind_e h0
  refine rst rfl rfl rfl (yv_callP rfl rfl (.cons rfl (.cons rfl .nil)) cal15 (CvL.refl _) (d_law00_Place_c e9)) ?_
  refine tr tbk 1 (.mk ?_)
  refine jn h0 [4, 6, 7] [1] (fun (a : Int × GOp) (k : Unit) => [(8, int a.1)]) (fun a k => [(2, ⟨38, 9, true, true, v8, [[int a.2.Kind, int a.2.E, int a.2.Item, int a.2.Loc, int a.2.To, int a.2.Qty, int a.2.Amount, int a.2.Ref, lst 1 fI a.2.Refs]]⟩)]) ⟨fun j10 h1 => ?_, ?_⟩
  refine tc tbk 3 (.mk ?_)
  refine nb tbk h1 fun x11 h1 => ?_
  refine tr tbk 2 (.mk ?_)
  cases x11
  replace h1 := cf h1
  refine tc tbk 3 (.mk ?_)
  refine nb tbk h1 fun x12 h1 => ?_
  refine tr tbk 2 (.mk ?_)
  cases x12
  replace h1 := cf h1
  refine tc tbk 3 (.mk ?_)
  refine nb tbk h1 fun x13 h1 => ?_
  refine tr tbk 2 (.mk ?_)
  cases x13
  replace h1 := cf h1
  refine tc tbk 3 (.mk ?_)
  refine nb tbk h1 fun x14 h1 => ?_
  refine tr tbk 2 (.mk ?_)
  cases x14
  replace h1 := cf h1
  refine tc tbk 3 (.mk ?_)
  refine nb tbk h1 fun x15 h1 => ?_
  refine tr tbk 2 (.mk ?_)
  cases x15
  replace h1 := cf h1
  refine tc tbk 3 (.mk ?_)
  exact lf h1 () (leH_kn ⟨⟨_, rfl, (.refl _)⟩, ⟨_, rfl, (.refl _)⟩, ⟨_, rfl, (.refl _)⟩, ⟨_, rfl, (.refl _)⟩, trivial⟩ ⟨⟨_, rfl, ⟨rfl, (.cons (.cons (.refl _) (.cons (.refl _) (.cons (.refl _) (.cons (.refl _) (.cons (.refl _) (.cons (.refl _) (.cons (.refl _) (.cons (.refl _) (.cons (.nil _) .nil))))))))) .nil)⟩⟩, ⟨_, rfl, (.refl _)⟩, trivial⟩)
  replace h1 := ct h1
  refine tc tbk 3 (.mk ?_)
  refine rst rfl rfl rfl (yv_build (cs := [int 12, int 1, int 1, int 0, int 0, int x4, int 0, int 0, .sc (.slice none 0 0)]) (ps := [(0, _), (1, _), (2, _), (4, _), (5, _)]) rfl pl38 z38 rfl (.cons rfl (.cons rfl (.cons rfl (.cons rfl (.cons rfl .nil))))) (by kernel_rfl)) ?_
  refine sS ⟨38, 9, true, true, v8, [[int 12, int 1, int 1, int 0, int 0, int x4, int 0, int 0, .sc (.slice none 0 0)]]⟩ sh38 ?_
  refine tr tbk 3 (.mk ?_)
  exact lf h1 () (leH_kn ⟨⟨_, rfl, (.refl _)⟩, ⟨_, rfl, (.refl _)⟩, ⟨_, rfl, (.refl _)⟩, ⟨_, rfl, (.refl _)⟩, trivial⟩ ⟨⟨_, rfl, ⟨rfl, (.cons (.cons (.refl _) (.cons (.refl _) (.cons (.refl _) (.cons (.refl _) (.cons (.refl _) (.cons (.refl _) (.cons (.refl _) (.cons (.refl _) (.cons (.nil _) .nil))))))))) .nil)⟩⟩, ⟨_, rfl, (.refl _)⟩, trivial⟩)
  replace h1 := ct h1
  refine tc tbk 3 (.mk ?_)
  refine rst rfl rfl rfl (yv_build (cs := [int 13, int 0, int 0, int 0, int 0, int 1, int 0, int x4, .sc (.slice none 0 0)]) (ps := [(0, _), (7, _), (5, _)]) rfl pl38 z38 rfl (.cons rfl (.cons rfl (.cons rfl .nil))) (by kernel_rfl)) ?_
  refine sS ⟨38, 9, true, true, v8, [[int 13, int 0, int 0, int 0, int 0, int 1, int 0, int x4, .sc (.slice none 0 0)]]⟩ sh38 ?_
  refine tr tbk 3 (.mk ?_)
  exact lf h1 () (leH_kn ⟨⟨_, rfl, (.refl _)⟩, ⟨_, rfl, (.refl _)⟩, ⟨_, rfl, (.refl _)⟩, ⟨_, rfl, (.refl _)⟩, trivial⟩ ⟨⟨_, rfl, ⟨rfl, (.cons (.cons (.refl _) (.cons (.refl _) (.cons (.refl _) (.cons (.refl _) (.cons (.refl _) (.cons (.refl _) (.cons (.refl _) (.cons (.refl _) (.cons (.nil _) .nil))))))))) .nil)⟩⟩, ⟨_, rfl, (.refl _)⟩, trivial⟩)
  replace h1 := ct h1
  refine tc tbk 2 (.mk ?_)
  refine rst rfl rfl rfl (yv_build (cs := [int 12, int 0, int 4, int 0, int 1, int 1, int 0, int 0, .sc (.slice none 0 0)]) (ps := [(0, _), (2, _), (4, _), (5, _)]) rfl pl38 z38 rfl (.cons rfl (.cons rfl (.cons rfl (.cons rfl .nil)))) (by kernel_rfl)) ?_
  refine sS ⟨38, 9, true, true, v8, [[int 12, int 0, int 4, int 0, int 1, int 1, int 0, int 0, .sc (.slice none 0 0)]]⟩ sh38 ?_
  refine tr tbk 3 (.mk ?_)
  exact lf h1 () (leH_kn ⟨⟨_, rfl, (.refl _)⟩, ⟨_, rfl, (.refl _)⟩, ⟨_, rfl, (.refl _)⟩, ⟨_, rfl, (.refl _)⟩, trivial⟩ ⟨⟨_, rfl, ⟨rfl, (.cons (.cons (.refl _) (.cons (.refl _) (.cons (.refl _) (.cons (.refl _) (.cons (.refl _) (.cons (.refl _) (.cons (.refl _) (.cons (.refl _) (.cons (.nil _) .nil))))))))) .nil)⟩⟩, ⟨_, rfl, (.refl _)⟩, trivial⟩)
  replace h1 := ct h1
  refine tc tbk 2 (.mk ?_)
  refine rst rfl rfl rfl (yv_build (cs := [int 12, int 3, int 1, int 0, int 1, int 1, int 0, int 0, .sc (.slice none 0 0)]) (ps := [(0, _), (1, _), (2, _), (4, _), (5, _)]) rfl pl38 z38 rfl (.cons rfl (.cons rfl (.cons rfl (.cons rfl (.cons rfl .nil))))) (by kernel_rfl)) ?_
  refine sS ⟨38, 9, true, true, v8, [[int 12, int 3, int 1, int 0, int 1, int 1, int 0, int 0, .sc (.slice none 0 0)]]⟩ sh38 ?_
  refine tr tbk 3 (.mk ?_)
  exact lf h1 () (leH_kn ⟨⟨_, rfl, (.refl _)⟩, ⟨_, rfl, (.refl _)⟩, ⟨_, rfl, (.refl _)⟩, ⟨_, rfl, (.refl _)⟩, trivial⟩ ⟨⟨_, rfl, ⟨rfl, (.cons (.cons (.refl _) (.cons (.refl _) (.cons (.refl _) (.cons (.refl _) (.cons (.refl _) (.cons (.refl _) (.cons (.refl _) (.cons (.refl _) (.cons (.nil _) .nil))))))))) .nil)⟩⟩, ⟨_, rfl, (.refl _)⟩, trivial⟩)
  replace h1 := ct h1
  refine tc tbk 2 (.mk ?_)
  refine rst rfl rfl rfl (yv_build (cs := [int 12, int 0, int 1, int 0, int 2, int 1, int 0, int 0, .sc (.slice none 0 0)]) (ps := [(0, _), (2, _), (4, _), (5, _)]) rfl pl38 z38 rfl (.cons rfl (.cons rfl (.cons rfl (.cons rfl .nil)))) (by kernel_rfl)) ?_
  refine sS ⟨38, 9, true, true, v8, [[int 12, int 0, int 1, int 0, int 2, int 1, int 0, int 0, .sc (.slice none 0 0)]]⟩ sh38 ?_
  refine tr tbk 3 (.mk ?_)
  exact lf h1 () (leH_kn ⟨⟨_, rfl, (.refl _)⟩, ⟨_, rfl, (.refl _)⟩, ⟨_, rfl, (.refl _)⟩, ⟨_, rfl, (.refl _)⟩, trivial⟩ ⟨⟨_, rfl, ⟨rfl, (.cons (.cons (.refl _) (.cons (.refl _) (.cons (.refl _) (.cons (.refl _) (.cons (.refl _) (.cons (.refl _) (.cons (.refl _) (.cons (.refl _) (.cons (.nil _) .nil))))))))) .nil)⟩⟩, ⟨_, rfl, (.refl _)⟩, trivial⟩)
  rintro ⟨y0_1, y0_2⟩ _ h0
  replace h0 := p2_e h0
  refine tc tbk 4 (.mk ?_)
  obtain ⟨x16, e16, h0⟩ := bind_e h0
  refine rst rfl rfl rfl (yv_callP rfl rfl (.cons rfl (.cons rfl .nil)) cal34 (CvL.refl _) (d_ship_Do_c e16)) ?_
  refine tr tbk 3 (.mk ?_)
  refine rse rfl rfl rfl (yl_alloc 3 .any rfl z32 rfl) ?_; rintro _ _ ⟨v17, -, rfl, rfl⟩
  refine sS ⟨32, 10, true, true, v17, [[int x16.1.Master.Entities, int x16.1.Master.Periods, lst 1 fI x16.1.Master.Weights, lst 1 (fL 1 fI) x16.1.Master.Methods, lst 1 (fL 1 fI) x16.1.Master.Costs, lst 8 GEnt.av x16.1.Ents, lst 8 GReceipt.av x16.1.Receipts, lst 9 GSale.av x16.1.Sales, lst 6 GTransit.av x16.1.Transits, int x16.1.Done]]⟩ sh32 ?_
  refine tr tbk 3 (.mk ?_)
  refine jn h0 [] [] (fun (a : Bool) (k : Unit) => [(4, boo a)]) (fun a k => []) ⟨fun j18 h1 => ?_, ?_⟩
  refine tc tbk 3 (.mk ?_)
  refine nb tbk h1 fun x19 h1 => ?_
  refine tr tbk 1 (.mk ?_)
  cases x19
  replace h1 := cf h1
  refine tr tbk 9 (.mk ?_)
  exact lf h1 () leA
  replace h1 := ct h1
  refine tr tbk 2 (.mk ?_)
  obtain ⟨x20, e20, h1⟩ := bind_e h1
  refine rst rfl rfl rfl (yv_callP rfl rfl (.cons rfl (.cons rfl .nil)) cal20 (CvL.refl _) (d_ref14_Same_c e20)) ?_
  refine tr tbk 2 (.mk ?_)
  cases x20
  replace h1 := cf h1
  refine tr tbk 4 (.mk ?_)
  exact lf h1 () leA
  replace h1 := ct h1
  obtain ⟨x21, e21, h1⟩ := bind_e h1
  refine rst rfl rfl rfl (yv_callP rfl rfl .nil cal35 (CvL.refl _) (d_law20_awake_c e21)) ?_
  refine tr tbk 3 (.mk ?_)
  exact lf h1 () leA
  rintro y1_1 _ h0
  obtain rfl := nxt_e h0
  refine w_ret (hret _ _ _ (.tmp rfl .nil) (fun _ _ h => h) ?_)
  exact .refl _
end Go.Pv
