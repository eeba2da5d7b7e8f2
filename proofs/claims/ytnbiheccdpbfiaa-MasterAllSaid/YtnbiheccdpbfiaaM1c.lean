import Derived.Test.YtnbiheccdpbfiaaM1b
set_option linter.unusedSimpArgs false
set_option linter.unusedVariables false
namespace Go.Pv
open Go.Proofs
set_option maxRecDepth 10000
def d_ref11_Same (n : Nat) (a1 : GPool) (a2 : GPool) : Option (Bool) :=
(show Option (Bool) from
(d_ref09_Same n a1.Layers a2.Layers).bind fun (x6 : Bool) =>
cond x6 (bnd (decide (a1.Pend.a0 = a2.Pend.a0)) fun (x7 : Bool) =>
cond x7 (bnd (decide (a1.Pend.a1 = a2.Pend.a1)) fun (x8 : Bool) =>
cond x8 (bnd (decide (a1.Pend.a2 = a2.Pend.a2)) fun (x9 : Bool) =>
some (x9 : Bool)) (some (false : Bool))) (some (false : Bool))) (some (false : Bool))).bind <| fun (y0_1 : Bool) =>
some ((y0_1 : Bool))
theorem d_ref11_Same_c {n : Nat} {a1 : GPool} {a2 : GPool} {r : Bool} (h0 : d_ref11_Same n a1 a2 = some r) : PP Try.prog 69 [.agg (GPool.av a1), .agg (GPool.av a2)] (fun y => y = boo r) := by
  unfold d_ref11_Same at h0
  refine pp_of_pc (R0 := fun y H => Cv (frzH H) y (boo r)) ?_ (fun y H hc => ⟨_, rfl, pvB r, hc⟩)
  refine pc_of' (c := _) Try.func69 rfl rfl ?_; intro Q hret hnorm
  refine c_seq ?_
  refine c_reg ?_; intro K hK
  refine se rfl rfl rfl (yl_box 1 .any rfl rfl rfl) ?_; rintro _ _ ⟨v3, -, rfl, rfl⟩
  refine se rfl rfl rfl (yl_box 2 .any rfl rfl rfl) ?_; rintro _ _ ⟨v4, -, rfl, rfl⟩
  refine st rfl rfl rfl (yv_assign rfl rfl) ?_
  refine rg_nil (hK _ ?_)
  refine c_seq ?_
  obtain ⟨j5, h1, h0⟩ := bind_e h0
  refine c_regL (fun (a : Bool) (k : Unit) => ⟨kn [(4, boo a)], hk []⟩) (fun a => a = j5) ?_ ?_
  · intro K hK
    refine st rfl rfl rfl (yv_fieldAddr rfl fo72_0 rfl (.pt rfl rfl rfl) (.pt _ _ _ _ _)) ?_
    refine st rfl rfl rfl (yv_load rfl sh69 rfl (.pt rfl rfl rfl) rfl) ?_
    refine st rfl rfl rfl (yv_fieldAddr rfl fo72_0 rfl (.pt rfl rfl rfl) (.pt _ _ _ _ _)) ?_
    refine st rfl rfl rfl (yv_load rfl sh69 rfl (.pt rfl rfl rfl) rfl) ?_
    obtain ⟨x6, e6, h1⟩ := bind_e h1
    refine st rfl rfl rfl (yv_callP rfl rfl (.cons rfl (.cons rfl .nil)) cal74 (CvL.refl _) (d_ref09_Same_c e6)) ?_
    refine st rfl rfl rfl (yv_move rfl rfl) ?_
    refine scases 10 rfl ?_ ?_
    · intro hb; subst hb; replace h1 := ct h1
      refine st rfl rfl rfl (yv_fieldAddr rfl fo72_1 rfl (.pt rfl rfl rfl) (.pt _ _ _ _ _)) ?_
      refine st rfl rfl rfl (yv_indexAddrA rfl Try.underlying70 sh3 rfl rfl rfl rfl rfl (by decide)) ?_
      refine st rfl rfl rfl (yv_load rfl sh3 rfl (.pt rfl rfl rfl) rfl) ?_
      refine st rfl rfl rfl (yv_fieldAddr rfl fo72_1 rfl (.pt rfl rfl rfl) (.pt _ _ _ _ _)) ?_
      refine st rfl rfl rfl (yv_indexAddrA rfl Try.underlying70 sh3 rfl rfl rfl rfl rfl (by decide)) ?_
      refine st rfl rfl rfl (yv_load rfl sh3 rfl (.pt rfl rfl rfl) rfl) ?_
      obtain ⟨x7, e7, h1⟩ := bnd_e h1
      refine st rfl rfl rfl (yv_to (y := boo x7) (yv_eql rfl rfl rfl) (congrArg boo e7)) ?_
      refine st rfl rfl rfl (yv_pick rfl rfl (fun _ => rfl) (fun _ => rfl) rfl) ?_
      refine st rfl rfl rfl (yv_move rfl rfl) ?_
      refine scases 19 rfl ?_ ?_
      · intro hb; subst hb; replace h1 := ct h1
        refine st rfl rfl rfl (yv_fieldAddr rfl fo72_1 rfl (.pt rfl rfl rfl) (.pt _ _ _ _ _)) ?_
        refine st rfl rfl rfl (yv_indexAddrA rfl Try.underlying70 sh3 rfl rfl rfl rfl rfl (by decide)) ?_
        refine st rfl rfl rfl (yv_load rfl sh3 rfl (.pt rfl rfl rfl) rfl) ?_
        refine st rfl rfl rfl (yv_fieldAddr rfl fo72_1 rfl (.pt rfl rfl rfl) (.pt _ _ _ _ _)) ?_
        refine st rfl rfl rfl (yv_indexAddrA rfl Try.underlying70 sh3 rfl rfl rfl rfl rfl (by decide)) ?_
        refine st rfl rfl rfl (yv_load rfl sh3 rfl (.pt rfl rfl rfl) rfl) ?_
        obtain ⟨x8, e8, h1⟩ := bnd_e h1
        refine st rfl rfl rfl (yv_to (y := boo x8) (yv_eql rfl rfl rfl) (congrArg boo e8)) ?_
        refine st rfl rfl rfl (yv_pick rfl rfl (fun _ => rfl) (fun _ => rfl) rfl) ?_
        refine st rfl rfl rfl (yv_move rfl rfl) ?_
        refine scases 28 rfl ?_ ?_
        · intro hb; subst hb; replace h1 := ct h1
          refine st rfl rfl rfl (yv_fieldAddr rfl fo72_1 rfl (.pt rfl rfl rfl) (.pt _ _ _ _ _)) ?_
          refine st rfl rfl rfl (yv_indexAddrA rfl Try.underlying70 sh3 rfl rfl rfl rfl rfl (by decide)) ?_
          refine st rfl rfl rfl (yv_load rfl sh3 rfl (.pt rfl rfl rfl) rfl) ?_
          refine st rfl rfl rfl (yv_fieldAddr rfl fo72_1 rfl (.pt rfl rfl rfl) (.pt _ _ _ _ _)) ?_
          refine st rfl rfl rfl (yv_indexAddrA rfl Try.underlying70 sh3 rfl rfl rfl rfl rfl (by decide)) ?_
          refine st rfl rfl rfl (yv_load rfl sh3 rfl (.pt rfl rfl rfl) rfl) ?_
          obtain ⟨x9, e9, h1⟩ := bnd_e h1
          refine st rfl rfl rfl (yv_to (y := boo x9) (yv_eql rfl rfl rfl) (congrArg boo e9)) ?_
          refine st rfl rfl rfl (yv_pick rfl rfl (fun _ => rfl) (fun _ => rfl) rfl) ?_
          refine st rfl rfl rfl (yv_assign rfl rfl) ?_
          obtain rfl := nxt_e h1
          refine rg_nil (hK _ ⟨x9, (), rfl, leH_kn ⟨⟨_, rfl, (.refl _)⟩, trivial⟩ trivial⟩)
        · intro hb; subst hb; replace h1 := cf h1
          refine sk rfl rfl rfl ?_
          refine sk rfl rfl rfl ?_
          refine sk rfl rfl rfl ?_
          refine sk rfl rfl rfl ?_
          refine sk rfl rfl rfl ?_
          refine sk rfl rfl rfl ?_
          refine sk rfl rfl rfl ?_
          refine st rfl rfl rfl (yv_pick rfl rfl (fun _ => rfl) (fun _ => rfl) rfl) ?_
          refine st rfl rfl rfl (yv_assign rfl rfl) ?_
          obtain rfl := nxt_e h1
          refine rg_nil (hK _ ⟨false, (), rfl, leH_kn ⟨⟨_, rfl, (.refl _)⟩, trivial⟩ trivial⟩)
      · intro hb; subst hb; replace h1 := cf h1
        refine sk rfl rfl rfl ?_
        refine sk rfl rfl rfl ?_
        refine sk rfl rfl rfl ?_
        refine sk rfl rfl rfl ?_
        refine sk rfl rfl rfl ?_
        refine sk rfl rfl rfl ?_
        refine sk rfl rfl rfl ?_
        refine st rfl rfl rfl (yv_pick rfl rfl (fun _ => rfl) (fun _ => rfl) rfl) ?_
        refine st rfl rfl rfl (yv_move rfl rfl) ?_
        refine sk rfl rfl rfl ?_
        refine sk rfl rfl rfl ?_
        refine sk rfl rfl rfl ?_
        refine sk rfl rfl rfl ?_
        refine sk rfl rfl rfl ?_
        refine sk rfl rfl rfl ?_
        refine sk rfl rfl rfl ?_
        refine st rfl rfl rfl (yv_pick rfl rfl (fun _ => rfl) (fun _ => rfl) rfl) ?_
        refine st rfl rfl rfl (yv_assign rfl rfl) ?_
        obtain rfl := nxt_e h1
        refine rg_nil (hK _ ⟨false, (), rfl, leH_kn ⟨⟨_, rfl, (.refl _)⟩, trivial⟩ trivial⟩)
    · intro hb; subst hb; replace h1 := cf h1
      refine sk rfl rfl rfl ?_
      refine sk rfl rfl rfl ?_
      refine sk rfl rfl rfl ?_
      refine sk rfl rfl rfl ?_
      refine sk rfl rfl rfl ?_
      refine sk rfl rfl rfl ?_
      refine sk rfl rfl rfl ?_
      refine st rfl rfl rfl (yv_pick rfl rfl (fun _ => rfl) (fun _ => rfl) rfl) ?_
      refine st rfl rfl rfl (yv_move rfl rfl) ?_
      refine sk rfl rfl rfl ?_
      refine sk rfl rfl rfl ?_
      refine sk rfl rfl rfl ?_
      refine sk rfl rfl rfl ?_
      refine sk rfl rfl rfl ?_
      refine sk rfl rfl rfl ?_
      refine sk rfl rfl rfl ?_
      refine st rfl rfl rfl (yv_pick rfl rfl (fun _ => rfl) (fun _ => rfl) rfl) ?_
      refine st rfl rfl rfl (yv_move rfl rfl) ?_
      refine sk rfl rfl rfl ?_
      refine sk rfl rfl rfl ?_
      refine sk rfl rfl rfl ?_
      refine sk rfl rfl rfl ?_
      refine sk rfl rfl rfl ?_
      refine sk rfl rfl rfl ?_
      refine sk rfl rfl rfl ?_
      refine st rfl rfl rfl (yv_pick rfl rfl (fun _ => rfl) (fun _ => rfl) rfl) ?_
      refine st rfl rfl rfl (yv_assign rfl rfl) ?_
      obtain rfl := nxt_e h1
      refine rg_nil (hK _ ⟨false, (), rfl, leH_kn ⟨⟨_, rfl, (.refl _)⟩, trivial⟩ trivial⟩)
  · rintro y0_1 _ rfl
    refine c_show ⟨kn [(4, boo y0_1)], hk []⟩ ?_
    obtain rfl := nxt_e h0
    refine c_ret (hret _ _ _ (.tmp rfl .nil) (fun _ _ h => h) ?_)
    exact .refl _
def d_ref14_Numbers (a1 : GRoll) : Option (A11_Int) :=
some (((⟨a1.Open, a1.Bought, a1.Landed, a1.Arrived, a1.Returned, a1.Sold, a1.Shipped, a1.SentBack, a1.Scrapped, a1.Lost, a1.Revalued⟩ : A11_Int) : A11_Int))
theorem d_ref14_Numbers_c {a1 : GRoll} {r : A11_Int} (h0 : d_ref14_Numbers a1 = some r) : PP Try.prog 70 [.agg (GRoll.av a1)] (fun y => y = .agg (A11_Int.av r)) := by
  unfold d_ref14_Numbers at h0
  refine pp_of_pc (R0 := fun y H => Cv (frzH H) y (.agg (A11_Int.av r))) ?_ (fun y H hc => ⟨_, rfl, (fun (a : A11_Int) => PV.agg (A11_Int.pvc a)) r, hc⟩)
  refine pc_of' (c := _) Try.func70 rfl rfl ?_; intro Q hret hnorm
  refine c_seq ?_
  refine c_reg ?_; intro K hK
  refine se rfl rfl rfl (yl_box 1 .any rfl rfl rfl) ?_; rintro _ _ ⟨v2, -, rfl, rfl⟩
  refine se rfl rfl rfl (yl_alloc 2 .any rfl z110 rfl) ?_; rintro _ _ ⟨v3, -, rfl, rfl⟩
  refine rg_nil (hK _ ?_)
  refine c_seq ?_
  refine c_reg ?_; intro K hK
  refine st rfl rfl rfl (yv_fieldAddr rfl fo68_0 rfl (.pt rfl rfl rfl) (.pt _ _ _ _ _)) ?_
  refine st rfl rfl rfl (yv_load rfl sh3 rfl (.pt rfl rfl rfl) rfl) ?_
  refine st rfl rfl rfl (yv_fieldAddr rfl fo68_1 rfl (.pt rfl rfl rfl) (.pt _ _ _ _ _)) ?_
  refine st rfl rfl rfl (yv_load rfl sh3 rfl (.pt rfl rfl rfl) rfl) ?_
  refine st rfl rfl rfl (yv_fieldAddr rfl fo68_2 rfl (.pt rfl rfl rfl) (.pt _ _ _ _ _)) ?_
  refine st rfl rfl rfl (yv_load rfl sh3 rfl (.pt rfl rfl rfl) rfl) ?_
  refine st rfl rfl rfl (yv_fieldAddr rfl fo68_3 rfl (.pt rfl rfl rfl) (.pt _ _ _ _ _)) ?_
  refine st rfl rfl rfl (yv_load rfl sh3 rfl (.pt rfl rfl rfl) rfl) ?_
  refine st rfl rfl rfl (yv_fieldAddr rfl fo68_4 rfl (.pt rfl rfl rfl) (.pt _ _ _ _ _)) ?_
  refine st rfl rfl rfl (yv_load rfl sh3 rfl (.pt rfl rfl rfl) rfl) ?_
  refine st rfl rfl rfl (yv_fieldAddr rfl fo68_5 rfl (.pt rfl rfl rfl) (.pt _ _ _ _ _)) ?_
  refine st rfl rfl rfl (yv_load rfl sh3 rfl (.pt rfl rfl rfl) rfl) ?_
  refine st rfl rfl rfl (yv_fieldAddr rfl fo68_6 rfl (.pt rfl rfl rfl) (.pt _ _ _ _ _)) ?_
  refine st rfl rfl rfl (yv_load rfl sh3 rfl (.pt rfl rfl rfl) rfl) ?_
  refine st rfl rfl rfl (yv_fieldAddr rfl fo68_7 rfl (.pt rfl rfl rfl) (.pt _ _ _ _ _)) ?_
  refine st rfl rfl rfl (yv_load rfl sh3 rfl (.pt rfl rfl rfl) rfl) ?_
  refine st rfl rfl rfl (yv_fieldAddr rfl fo68_8 rfl (.pt rfl rfl rfl) (.pt _ _ _ _ _)) ?_
  refine st rfl rfl rfl (yv_load rfl sh3 rfl (.pt rfl rfl rfl) rfl) ?_
  refine st rfl rfl rfl (yv_fieldAddr rfl fo68_9 rfl (.pt rfl rfl rfl) (.pt _ _ _ _ _)) ?_
  refine st rfl rfl rfl (yv_load rfl sh3 rfl (.pt rfl rfl rfl) rfl) ?_
  refine st rfl rfl rfl (yv_fieldAddr rfl fo68_10 rfl (.pt rfl rfl rfl) (.pt _ _ _ _ _)) ?_
  refine st rfl rfl rfl (yv_load rfl sh3 rfl (.pt rfl rfl rfl) rfl) ?_
  refine st rfl rfl rfl (yv_buildA (cs := [int a1.Open, int a1.Bought, int a1.Landed, int a1.Arrived, int a1.Returned, int a1.Sold, int a1.Shipped, int a1.SentBack, int a1.Scrapped, int a1.Lost, int a1.Revalued]) (ps := [(0, _), (1, _), (2, _), (3, _), (4, _), (5, _), (6, _), (7, _), (8, _), (9, _), (10, _)]) rfl Try.underlying110 sh3 z110 rfl (.cons rfl (.cons rfl (.cons rfl (.cons rfl (.cons rfl (.cons rfl (.cons rfl (.cons rfl (.cons rfl (.cons rfl (.cons rfl .nil))))))))))) (by kernel_rfl)) ?_
  refine sstore rfl rfl (yl_ob (ob' := (⟨110, 11, true, true, v3, [[int a1.Open, int a1.Bought, int a1.Landed, int a1.Arrived, int a1.Returned, int a1.Sold, int a1.Shipped, int a1.SentBack, int a1.Scrapped, int a1.Lost, int a1.Revalued]]⟩ : AObj)) (yl_store rfl sh110 rfl rfl rfl rfl rfl rfl rfl rfl rfl) rfl) ?_
  refine rg_nil (hK _ ?_)
  obtain rfl := nxt_e h0
  refine c_ret (hret _ _ _ (.cell rfl (.pt rfl rfl rfl) sh110 rfl .nil) (fun _ _ h => h) ?_)
  exact .refl _
mutual
def d_ref14_sameEnt_L0 (a1 : GEnt) (a2 : GEnt) : Nat → Int → Option ((Unit) ⊕ (Bool))
  | 0, _ => none
  | n + 1, y1_1 =>
    bnd (decide (y1_1 < (a1.Pools.length : Int))) fun (x12 : Bool) =>
    cond x12 ((ix a1.Pools y1_1).bind fun (x13 : GPool) =>
    (ix a2.Pools y1_1).bind fun (x14 : GPool) =>
    (d_ref11_Same n x13 x14).bind fun (x15 : Bool) =>
    bnd (!x15) fun (x16 : Bool) =>
    cond x16 (esc (some ((false : Bool)))) (bnd (w64 (y1_1 + 1)) fun (x18 : Int) =>
    d_ref14_sameEnt_L0 a1 a2 n (x18 : Int))) (brk ())
def d_ref14_sameEnt_L1 (a1 : GEnt) (a2 : GEnt) : Nat → Int → Option ((Unit) ⊕ (Bool))
  | 0, _ => none
  | n + 1, y3_1 =>
    bnd (decide (y3_1 < (a1.Rolls.length : Int))) fun (x20 : Bool) =>
    cond x20 ((ix a1.Rolls y3_1).bind fun (x21 : GRoll) =>
    (d_ref14_Numbers x21).bind fun (x22 : A11_Int) =>
    (ix a2.Rolls y3_1).bind fun (x23 : GRoll) =>
    (d_ref14_Numbers x23).bind fun (x24 : A11_Int) =>
    bnd (!decide ((x22 : A11_Int) = (x24 : A11_Int))) fun (x25 : Bool) =>
    cond x25 (esc (some ((false : Bool)))) (bnd (w64 (y3_1 + 1)) fun (x27 : Int) =>
    d_ref14_sameEnt_L1 a1 a2 n (x27 : Int))) (brk ())
def d_ref14_sameEnt_L2 (a1 : GEnt) (a2 : GEnt) : Nat → Int → Option ((Unit) ⊕ (Bool))
  | 0, _ => none
  | n + 1, y5_1 =>
    bnd (decide (y5_1 < (a1.Ahead.length : Int))) fun (x29 : Bool) =>
    cond x29 ((ix a1.Ahead y5_1).bind fun (x30 : GEnt) =>
    (ix a2.Ahead y5_1).bind fun (x31 : GEnt) =>
    (d_ref14_sameEnt n x30 x31).bind fun (x32 : Bool) =>
    bnd (!x32) fun (x33 : Bool) =>
    cond x33 (esc (some ((false : Bool)))) (bnd (w64 (y5_1 + 1)) fun (x35 : Int) =>
    d_ref14_sameEnt_L2 a1 a2 n (x35 : Int))) (brk ())
def d_ref14_sameEnt : Nat → GEnt → GEnt → Option (Bool)
  | 0, _, _ => none
  | n + 1, a1, a2 =>
    (show Option (Bool) from
    bnd (decide (a1.Now ≠ a2.Now)) fun (x6 : Bool) =>
    cond x6 (some (true : Bool)) (bnd (decide (a1.Closed ≠ a2.Closed)) fun (x7 : Bool) =>
    cond x7 (some (true : Bool)) (bnd (decide ((a1.Pools.length : Int) ≠ (a2.Pools.length : Int))) fun (x8 : Bool) =>
    cond x8 (some (true : Bool)) (bnd (decide ((a1.Rolls.length : Int) ≠ (a2.Rolls.length : Int))) fun (x9 : Bool) =>
    cond x9 (some (true : Bool)) (bnd (decide ((a1.Ahead.length : Int) ≠ (a2.Ahead.length : Int))) fun (x10 : Bool) =>
    some (x10 : Bool)))))).bind <| fun (y0_1 : Bool) =>
    cond y0_1 (some ((false : Bool))) ((show Option ((Unit) ⊕ (Bool)) from
    d_ref14_sameEnt_L0 a1 a2 n (0 : Int)).bind <| sel <| fun (_ : Unit) =>
    (show Option ((Unit) ⊕ (Bool)) from
    d_ref14_sameEnt_L1 a1 a2 n (0 : Int)).bind <| sel <| fun (_ : Unit) =>
    (show Option ((Unit) ⊕ (Bool)) from
    d_ref14_sameEnt_L2 a1 a2 n (0 : Int)).bind <| sel <| fun (_ : Unit) =>
    (show Option (Bool) from
    (d_ref04_SameInts n a1.Bal a2.Bal).bind fun (x37 : Bool) =>
    cond x37 ((d_ref04_SameInts n a1.Prices a2.Prices).bind fun (x38 : Bool) =>
    cond x38 ((d_ref04_SameInts n a1.Down a2.Down).bind fun (x39 : Bool) =>
    some (x39 : Bool)) (some (false : Bool))) (some (false : Bool))).bind <| fun (y7_1 : Bool) =>
    some ((y7_1 : Bool)))
end
theorem d_ref14_sameEnt_c {n : Nat} {a1 : GEnt} {a2 : GEnt} {r : Bool} (h0 : d_ref14_sameEnt n a1 a2 = some r) : PP Try.prog 62 [.agg [int a1.Now, boo a1.Closed, lst 4 GPool.av a1.Pools, lst 1 fI a1.Bal, lst 11 GRoll.av a1.Rolls, lst 1 fI a1.Prices, lst 1 fI a1.Down, lst 8 GEnt.av a1.Ahead], .agg [int a2.Now, boo a2.Closed, lst 4 GPool.av a2.Pools, lst 1 fI a2.Bal, lst 11 GRoll.av a2.Rolls, lst 1 fI a2.Prices, lst 1 fI a2.Down, lst 8 GEnt.av a2.Ahead]] (fun y => y = boo r) := by
  induction n using Nat.strongRecOn generalizing a1 a2 r with
  | ind n ih =>
    cases n with
    | zero => rw [d_ref14_sameEnt] at h0; cases h0
    | succ n =>
    have hN : n < n + 1 := Nat.lt_succ_self n
    rw [d_ref14_sameEnt] at h0
    refine pp_of_pc (R0 := fun y H => Cv (frzH H) y (boo r)) ?_ (fun y H hc => ⟨_, rfl, pvB r, hc⟩)
    refine pc_of' (c := _) Try.func62 rfl rfl ?_; intro Q hret hnorm
    refine c_seq ?_
    refine c_reg ?_; intro K hK
    refine se rfl rfl rfl (yl_box 1 .any rfl rfl rfl) ?_; rintro _ _ ⟨v3, -, rfl, rfl⟩
    refine se rfl rfl rfl (yl_box 2 .any rfl rfl rfl) ?_; rintro _ _ ⟨v4, -, rfl, rfl⟩
    refine st rfl rfl rfl (yv_assign rfl rfl) ?_
    refine rg_nil (hK _ ?_)
    refine c_seq ?_
    refine c_seq ?_
    obtain ⟨j5, h1, h0⟩ := bind_e h0
    refine c_regL (fun (a : Bool) (k : Unit) => ⟨kn [(2, .pt 1 v3 0 0), (3, .pt 2 v4 0 0), (4, boo false), (46, boo a)], hk [(1, ⟨66, 8, true, true, v3, [[int a1.Now, boo a1.Closed, lst 4 GPool.av a1.Pools, lst 1 fI a1.Bal, lst 11 GRoll.av a1.Rolls, lst 1 fI a1.Prices, lst 1 fI a1.Down, lst 8 GEnt.av a1.Ahead]]⟩), (2, ⟨66, 8, true, true, v4, [[int a2.Now, boo a2.Closed, lst 4 GPool.av a2.Pools, lst 1 fI a2.Bal, lst 11 GRoll.av a2.Rolls, lst 1 fI a2.Prices, lst 1 fI a2.Down, lst 8 GEnt.av a2.Ahead]]⟩)]⟩) (fun a => a = j5) ?_ ?_
    · intro K hK
      refine st rfl rfl rfl (yv_fieldAddr rfl fo66_0 rfl (.pt rfl rfl rfl) (.pt _ _ _ _ _)) ?_
      refine st rfl rfl rfl (yv_load rfl sh3 rfl (.pt rfl rfl rfl) rfl) ?_
      refine st rfl rfl rfl (yv_fieldAddr rfl fo66_0 rfl (.pt rfl rfl rfl) (.pt _ _ _ _ _)) ?_
      refine st rfl rfl rfl (yv_load rfl sh3 rfl (.pt rfl rfl rfl) rfl) ?_
      obtain ⟨x6, e6, h1⟩ := bnd_e h1
      refine st rfl rfl rfl (yv_to (y := boo x6) (yv_neq rfl rfl rfl) (congrArg boo e6)) ?_
      refine st rfl rfl rfl (yv_move rfl rfl) ?_
      refine scases 13 rfl ?_ ?_
      · intro hb; subst hb; replace h1 := ct h1
        refine sk rfl rfl rfl ?_
        refine sk rfl rfl rfl ?_
        refine sk rfl rfl rfl ?_
        refine sk rfl rfl rfl ?_
        refine sk rfl rfl rfl ?_
        refine st rfl rfl rfl (yv_pick rfl rfl (fun _ => rfl) (fun _ => rfl) rfl) ?_
        refine st rfl rfl rfl (yv_move rfl rfl) ?_
        refine sk rfl rfl rfl ?_
        refine sk rfl rfl rfl ?_
        refine sk rfl rfl rfl ?_
        refine sk rfl rfl rfl ?_
        refine sk rfl rfl rfl ?_
        refine sk rfl rfl rfl ?_
        refine sk rfl rfl rfl ?_
        refine st rfl rfl rfl (yv_pick rfl rfl (fun _ => rfl) (fun _ => rfl) rfl) ?_
        refine st rfl rfl rfl (yv_move rfl rfl) ?_
        refine sk rfl rfl rfl ?_
        refine sk rfl rfl rfl ?_
        refine sk rfl rfl rfl ?_
        refine sk rfl rfl rfl ?_
        refine sk rfl rfl rfl ?_
        refine sk rfl rfl rfl ?_
        refine sk rfl rfl rfl ?_
        refine st rfl rfl rfl (yv_pick rfl rfl (fun _ => rfl) (fun _ => rfl) rfl) ?_
        refine st rfl rfl rfl (yv_move rfl rfl) ?_
        refine sk rfl rfl rfl ?_
        refine sk rfl rfl rfl ?_
        refine sk rfl rfl rfl ?_
        refine sk rfl rfl rfl ?_
        refine sk rfl rfl rfl ?_
        refine sk rfl rfl rfl ?_
        refine sk rfl rfl rfl ?_
        refine st rfl rfl rfl (yv_pick rfl rfl (fun _ => rfl) (fun _ => rfl) rfl) ?_
        obtain rfl := nxt_e h1
        refine rg_nil (hK _ ⟨true, (), rfl, leH_kn ⟨⟨_, rfl, (.refl _)⟩, ⟨_, rfl, (.refl _)⟩, ⟨_, rfl, (.refl _)⟩, ⟨_, rfl, (.refl _)⟩, trivial⟩ ⟨⟨_, rfl, (.refl _)⟩, ⟨_, rfl, (.refl _)⟩, trivial⟩⟩)
      · intro hb; subst hb; replace h1 := cf h1
        refine st rfl rfl rfl (yv_fieldAddr rfl fo66_1 rfl (.pt rfl rfl rfl) (.pt _ _ _ _ _)) ?_
        refine st rfl rfl rfl (yv_load rfl sh4 rfl (.pt rfl rfl rfl) rfl) ?_
        refine st rfl rfl rfl (yv_fieldAddr rfl fo66_1 rfl (.pt rfl rfl rfl) (.pt _ _ _ _ _)) ?_
        refine st rfl rfl rfl (yv_load rfl sh4 rfl (.pt rfl rfl rfl) rfl) ?_
        obtain ⟨x7, e7, h1⟩ := bnd_e h1
        refine st rfl rfl rfl (yv_to (y := boo x7) (yv_bneq rfl Try.underlying4 rfl rfl) (congrArg boo e7)) ?_
        refine st rfl rfl rfl (yv_pick rfl rfl (fun _ => rfl) (fun _ => rfl) rfl) ?_
        refine st rfl rfl rfl (yv_move rfl rfl) ?_
        refine scases 20 rfl ?_ ?_
        · intro hb; subst hb; replace h1 := ct h1
          refine sk rfl rfl rfl ?_
          refine sk rfl rfl rfl ?_
          refine sk rfl rfl rfl ?_
          refine sk rfl rfl rfl ?_
          refine sk rfl rfl rfl ?_
          refine sk rfl rfl rfl ?_
          refine sk rfl rfl rfl ?_
          refine st rfl rfl rfl (yv_pick rfl rfl (fun _ => rfl) (fun _ => rfl) rfl) ?_
          refine st rfl rfl rfl (yv_move rfl rfl) ?_
          refine sk rfl rfl rfl ?_
          refine sk rfl rfl rfl ?_
          refine sk rfl rfl rfl ?_
          refine sk rfl rfl rfl ?_
          refine sk rfl rfl rfl ?_
          refine sk rfl rfl rfl ?_
          refine sk rfl rfl rfl ?_
          refine st rfl rfl rfl (yv_pick rfl rfl (fun _ => rfl) (fun _ => rfl) rfl) ?_
          refine st rfl rfl rfl (yv_move rfl rfl) ?_
          refine sk rfl rfl rfl ?_
          refine sk rfl rfl rfl ?_
          refine sk rfl rfl rfl ?_
          refine sk rfl rfl rfl ?_
          refine sk rfl rfl rfl ?_
          refine sk rfl rfl rfl ?_
          refine sk rfl rfl rfl ?_
          refine st rfl rfl rfl (yv_pick rfl rfl (fun _ => rfl) (fun _ => rfl) rfl) ?_
          obtain rfl := nxt_e h1
          refine rg_nil (hK _ ⟨true, (), rfl, leH_kn ⟨⟨_, rfl, (.refl _)⟩, ⟨_, rfl, (.refl _)⟩, ⟨_, rfl, (.refl _)⟩, ⟨_, rfl, (.refl _)⟩, trivial⟩ ⟨⟨_, rfl, (.refl _)⟩, ⟨_, rfl, (.refl _)⟩, trivial⟩⟩)
        · intro hb; subst hb; replace h1 := cf h1
          refine st rfl rfl rfl (yv_fieldAddr rfl fo66_2 rfl (.pt rfl rfl rfl) (.pt _ _ _ _ _)) ?_
          refine st rfl rfl rfl (yv_load rfl sh63 rfl (.pt rfl rfl rfl) rfl) ?_
          refine st rfl rfl rfl (yv_len_sl rfl Try.underlying63 rfl (lst_len _)) ?_
          refine st rfl rfl rfl (yv_fieldAddr rfl fo66_2 rfl (.pt rfl rfl rfl) (.pt _ _ _ _ _)) ?_
          refine st rfl rfl rfl (yv_load rfl sh63 rfl (.pt rfl rfl rfl) rfl) ?_
          refine st rfl rfl rfl (yv_len_sl rfl Try.underlying63 rfl (lst_len _)) ?_
          obtain ⟨x8, e8, h1⟩ := bnd_e h1
          refine st rfl rfl rfl (yv_to (y := boo x8) (yv_neq rfl rfl rfl) (congrArg boo e8)) ?_
          refine st rfl rfl rfl (yv_pick rfl rfl (fun _ => rfl) (fun _ => rfl) rfl) ?_
          refine st rfl rfl rfl (yv_move rfl rfl) ?_
          refine scases 29 rfl ?_ ?_
          · intro hb; subst hb; replace h1 := ct h1
            refine sk rfl rfl rfl ?_
            refine sk rfl rfl rfl ?_
            refine sk rfl rfl rfl ?_
            refine sk rfl rfl rfl ?_
            refine sk rfl rfl rfl ?_
            refine sk rfl rfl rfl ?_
            refine sk rfl rfl rfl ?_
            refine st rfl rfl rfl (yv_pick rfl rfl (fun _ => rfl) (fun _ => rfl) rfl) ?_
            refine st rfl rfl rfl (yv_move rfl rfl) ?_
            refine sk rfl rfl rfl ?_
            refine sk rfl rfl rfl ?_
            refine sk rfl rfl rfl ?_
            refine sk rfl rfl rfl ?_
            refine sk rfl rfl rfl ?_
            refine sk rfl rfl rfl ?_
            refine sk rfl rfl rfl ?_
            refine st rfl rfl rfl (yv_pick rfl rfl (fun _ => rfl) (fun _ => rfl) rfl) ?_
            obtain rfl := nxt_e h1
            refine rg_nil (hK _ ⟨true, (), rfl, leH_kn ⟨⟨_, rfl, (.refl _)⟩, ⟨_, rfl, (.refl _)⟩, ⟨_, rfl, (.refl _)⟩, ⟨_, rfl, (.refl _)⟩, trivial⟩ ⟨⟨_, rfl, (.refl _)⟩, ⟨_, rfl, (.refl _)⟩, trivial⟩⟩)
          · intro hb; subst hb; replace h1 := cf h1
            refine st rfl rfl rfl (yv_fieldAddr rfl fo66_4 rfl (.pt rfl rfl rfl) (.pt _ _ _ _ _)) ?_
            refine st rfl rfl rfl (yv_load rfl sh64 rfl (.pt rfl rfl rfl) rfl) ?_
            refine st rfl rfl rfl (yv_len_sl rfl Try.underlying64 rfl (lst_len _)) ?_
            refine st rfl rfl rfl (yv_fieldAddr rfl fo66_4 rfl (.pt rfl rfl rfl) (.pt _ _ _ _ _)) ?_
            refine st rfl rfl rfl (yv_load rfl sh64 rfl (.pt rfl rfl rfl) rfl) ?_
            refine st rfl rfl rfl (yv_len_sl rfl Try.underlying64 rfl (lst_len _)) ?_
            obtain ⟨x9, e9, h1⟩ := bnd_e h1
            refine st rfl rfl rfl (yv_to (y := boo x9) (yv_neq rfl rfl rfl) (congrArg boo e9)) ?_
            refine st rfl rfl rfl (yv_pick rfl rfl (fun _ => rfl) (fun _ => rfl) rfl) ?_
            refine st rfl rfl rfl (yv_move rfl rfl) ?_
            refine scases 38 rfl ?_ ?_
            · intro hb; subst hb; replace h1 := ct h1
              refine sk rfl rfl rfl ?_
              refine sk rfl rfl rfl ?_
              refine sk rfl rfl rfl ?_
              refine sk rfl rfl rfl ?_
              refine sk rfl rfl rfl ?_
              refine sk rfl rfl rfl ?_
              refine sk rfl rfl rfl ?_
              refine st rfl rfl rfl (yv_pick rfl rfl (fun _ => rfl) (fun _ => rfl) rfl) ?_
              obtain rfl := nxt_e h1
              refine rg_nil (hK _ ⟨true, (), rfl, leH_kn ⟨⟨_, rfl, (.refl _)⟩, ⟨_, rfl, (.refl _)⟩, ⟨_, rfl, (.refl _)⟩, ⟨_, rfl, (.refl _)⟩, trivial⟩ ⟨⟨_, rfl, (.refl _)⟩, ⟨_, rfl, (.refl _)⟩, trivial⟩⟩)
            · intro hb; subst hb; replace h1 := cf h1
              refine st rfl rfl rfl (yv_fieldAddr rfl fo66_7 rfl (.pt rfl rfl rfl) (.pt _ _ _ _ _)) ?_
              refine st rfl rfl rfl (yv_load rfl sh48 rfl (.pt rfl rfl rfl) rfl) ?_
              refine st rfl rfl rfl (yv_len_sl rfl Try.underlying48 rfl (lst_len _)) ?_
              refine st rfl rfl rfl (yv_fieldAddr rfl fo66_7 rfl (.pt rfl rfl rfl) (.pt _ _ _ _ _)) ?_
              refine st rfl rfl rfl (yv_load rfl sh48 rfl (.pt rfl rfl rfl) rfl) ?_
              refine st rfl rfl rfl (yv_len_sl rfl Try.underlying48 rfl (lst_len _)) ?_
              obtain ⟨x10, e10, h1⟩ := bnd_e h1
              refine st rfl rfl rfl (yv_to (y := boo x10) (yv_neq rfl rfl rfl) (congrArg boo e10)) ?_
              refine st rfl rfl rfl (yv_pick rfl rfl (fun _ => rfl) (fun _ => rfl) rfl) ?_
              obtain rfl := nxt_e h1
              refine rg_nil (hK _ ⟨x10, (), rfl, leH_kn ⟨⟨_, rfl, (.refl _)⟩, ⟨_, rfl, (.refl _)⟩, ⟨_, rfl, (.refl _)⟩, ⟨_, rfl, (.refl _)⟩, trivial⟩ ⟨⟨_, rfl, (.refl _)⟩, ⟨_, rfl, (.refl _)⟩, trivial⟩⟩)
    · rintro y0_1 _ rfl
      refine c_show ⟨kn [(2, .pt 1 v3 0 0), (3, .pt 2 v4 0 0), (4, boo false), (46, boo y0_1)], hk [(1, ⟨66, 8, true, true, v3, [[int a1.Now, boo a1.Closed, lst 4 GPool.av a1.Pools, lst 1 fI a1.Bal, lst 11 GRoll.av a1.Rolls, lst 1 fI a1.Prices, lst 1 fI a1.Down, lst 8 GEnt.av a1.Ahead]]⟩), (2, ⟨66, 8, true, true, v4, [[int a2.Now, boo a2.Closed, lst 4 GPool.av a2.Pools, lst 1 fI a2.Bal, lst 11 GRoll.av a2.Rolls, lst 1 fI a2.Prices, lst 1 fI a2.Down, lst 8 GEnt.av a2.Ahead]]⟩)]⟩ ?_
      refine c_if (b := y0_1) rfl ?_ ?_
      · intro hb; subst hb; replace h0 := ct h0
        refine c_seq ?_
        refine c_reg ?_; intro K hK
        refine st rfl rfl rfl (yv_assign rfl rfl) ?_
        refine rg_nil (hK _ ?_)
        obtain rfl := nxt_e h0
        refine c_ret (hret _ _ _ (.tmp rfl .nil) (fun _ _ h => h) ?_)
        exact .refl _
      · intro hb; subst hb; replace h0 := cf h0
        refine c_skip ?_
        refine c_seq ?_
        refine c_seq ?_
        refine c_reg ?_; intro K hK
        refine st rfl rfl rfl (yv_assign rfl rfl) ?_
        refine rg_nil (hK _ ?_)
        obtain ⟨j11, h1, h0⟩ := bind_e h0
        refine c_joinL (fun (a : Unit) (k : Unit) => ⟨kn [(2, .pt 1 v3 0 0), (3, .pt 2 v4 0 0), (4, boo false)], hk [(1, ⟨66, 8, true, true, v3, [[int a1.Now, boo a1.Closed, lst 4 GPool.av a1.Pools, lst 1 fI a1.Bal, lst 11 GRoll.av a1.Rolls, lst 1 fI a1.Prices, lst 1 fI a1.Down, lst 8 GEnt.av a1.Ahead]]⟩), (2, ⟨66, 8, true, true, v4, [[int a2.Now, boo a2.Closed, lst 4 GPool.av a2.Pools, lst 1 fI a2.Bal, lst 11 GRoll.av a2.Rolls, lst 1 fI a2.Prices, lst 1 fI a2.Down, lst 8 GEnt.av a2.Ahead]]⟩)]⟩) (fun a => j11 = .inl a) ?_ ?_
        · intro Q1 jn1 jx1 jr1
          refine c_block ?_; intro Q2 bn2 bx2 br2 bo2
          refine c_loopD (fun (a : Int) (k : Unit) => ⟨kn [(2, .pt 1 v3 0 0), (3, .pt 2 v4 0 0), (4, boo false), (5, int a)], hk [(1, ⟨66, 8, true, true, v3, [[int a1.Now, boo a1.Closed, lst 4 GPool.av a1.Pools, lst 1 fI a1.Bal, lst 11 GRoll.av a1.Rolls, lst 1 fI a1.Prices, lst 1 fI a1.Down, lst 8 GEnt.av a1.Ahead]]⟩), (2, ⟨66, 8, true, true, v4, [[int a2.Now, boo a2.Closed, lst 4 GPool.av a2.Pools, lst 1 fI a2.Bal, lst 11 GRoll.av a2.Rolls, lst 1 fI a2.Prices, lst 1 fI a2.Down, lst 8 GEnt.av a2.Ahead]]⟩)]⟩) (fun n (a : Int) => d_ref14_sameEnt_L0 a1 a2 n a) (0 : Int) () h1 (fun _ => rfl)
            (leH_kn ⟨⟨_, rfl, (.refl _)⟩, ⟨_, rfl, (.refl _)⟩, ⟨_, rfl, (.refl _)⟩, ⟨_, rfl, (.refl _)⟩, trivial⟩ ⟨⟨_, rfl, (.refl _)⟩, ⟨_, rfl, (.refl _)⟩, trivial⟩) ?_
          rintro n y1_1 _ hm h1 Q3 ln3 lx3 lr3
          replace h1 : d_ref14_sameEnt_L0 a1 a2 (n + 1) y1_1 = some _ := h1
          replace hN := Nat.lt_trans (Nat.lt_of_succ_le hm) hN
          rw [d_ref14_sameEnt_L0] at h1
          refine c_show ⟨kn [(2, .pt 1 v3 0 0), (3, .pt 2 v4 0 0), (4, boo false), (5, int y1_1)], hk [(1, ⟨66, 8, true, true, v3, [[int a1.Now, boo a1.Closed, lst 4 GPool.av a1.Pools, lst 1 fI a1.Bal, lst 11 GRoll.av a1.Rolls, lst 1 fI a1.Prices, lst 1 fI a1.Down, lst 8 GEnt.av a1.Ahead]]⟩), (2, ⟨66, 8, true, true, v4, [[int a2.Now, boo a2.Closed, lst 4 GPool.av a2.Pools, lst 1 fI a2.Bal, lst 11 GRoll.av a2.Rolls, lst 1 fI a2.Prices, lst 1 fI a2.Down, lst 8 GEnt.av a2.Ahead]]⟩)]⟩ ?_
          refine c_seq ?_
          refine c_seq ?_
          refine c_reg ?_; intro K hK
          refine st rfl rfl rfl (yv_move rfl rfl) ?_
          refine st rfl rfl rfl (yv_fieldAddr rfl fo66_2 rfl (.pt rfl rfl rfl) (.pt _ _ _ _ _)) ?_
          refine st rfl rfl rfl (yv_load rfl sh63 rfl (.pt rfl rfl rfl) rfl) ?_
          refine st rfl rfl rfl (yv_len_sl rfl Try.underlying63 rfl (lst_len _)) ?_
          obtain ⟨x12, e12, h1⟩ := bnd_e h1
          refine st rfl rfl rfl (yv_to (y := boo x12) (yv_lss rfl rfl rfl) (congrArg boo e12)) ?_
          refine rg_nil (hK _ ?_)
          refine c_if (b := x12) rfl ?_ ?_
          · intro hb; subst hb; replace h1 := ct h1
            refine c_skip ?_
            refine c_seq ?_
            refine c_block ?_; intro Q4 bn4 bx4 br4 bo4
            refine c_seq ?_
            refine c_drawE [0, 1, 0, 7, 15, 0, 32, 0, 224, 480, 1023, 2047] (fun i => bif Nat.beq i 0 then ([1]) else bif Nat.beq i 1 then ([1]) else bif Nat.beq i 5 then ([2]) else bif Nat.beq i 6 then ([2]) else []) (fun i => [1, 2]) (fun i => true) [0, 1, 2, 3, 4, 5, 6, 7, 8, 9, 10, 11] mixed (by kernel_rfl) ?_; intro K hK
            refine de_pure rfl rfl rfl rfl (fun H hH => yv_fieldAddr rfl fo66_2 rfl (.pt ((hH _ (by decide)).trans rfl) rfl rfl) (.pt _ _ _ _ _)) ?_
            refine de_pure rfl rfl rfl rfl (fun H hH => yv_load rfl sh63 rfl (.pt ((hH _ (by decide)).trans rfl) rfl rfl) rfl) ?_
            refine de_pure rfl rfl rfl rfl (fun H hH => yv_move rfl rfl) ?_
            obtain ⟨x13, e13, h1⟩ := bind_e h1
            refine de_pure rfl rfl rfl rfl (fun H hH => yv_ixT rfl Try.underlying63 sh72 rfl rfl e13) ?_
            refine de_pure rfl rfl rfl rfl (fun H hH => yv_load rfl sh72 rfl (.pp _) rfl) ?_
            refine de_pure rfl rfl rfl rfl (fun H hH => yv_fieldAddr rfl fo66_2 rfl (.pt ((hH _ (by decide)).trans rfl) rfl rfl) (.pt _ _ _ _ _)) ?_
            refine de_pure rfl rfl rfl rfl (fun H hH => yv_load rfl sh63 rfl (.pt ((hH _ (by decide)).trans rfl) rfl rfl) rfl) ?_
            refine de_pure rfl rfl rfl rfl (fun H hH => yv_move rfl rfl) ?_
            obtain ⟨x14, e14, h1⟩ := bind_e h1
            refine de_pure rfl rfl rfl rfl (fun H hH => yv_ixT rfl Try.underlying63 sh72 rfl rfl e14) ?_
            refine de_pure rfl rfl rfl rfl (fun H hH => yv_load rfl sh72 rfl (.pp _) rfl) ?_
            obtain ⟨x15, e15, h1⟩ := bind_e h1
            refine de_pure rfl rfl rfl rfl (fun H hH => yv_callP rfl rfl (.cons rfl (.cons rfl .nil)) cal69 (CvL.refl _) (d_ref11_Same_c e15)) ?_
            obtain ⟨x16, e16, h1⟩ := bnd_e h1
            refine de_pure rfl rfl rfl rfl (fun H hH => yv_not rfl rfl e16) ?_
            refine de_nil (hK _ ?_)
            refine c_if (b := x16) rfl ?_ ?_
            · intro hb; subst hb; replace h1 := ct h1
              refine c_seq ?_
              refine c_reg ?_; intro K hK
              refine st rfl rfl rfl (yv_assign rfl rfl) ?_
              refine rg_nil (hK _ ?_)
              obtain ⟨c17, hX, hj⟩ := esc_e h1; subst hj; replace h0 := hX.trans (sel_r h0)
              obtain rfl := nxt_e h0
              refine c_ret (br4 _ (lr3 _ (br2 _ (jr1 _ (hret _ _ _ (.tmp rfl .nil) (fun _ _ h => h) ?_)))))
              exact .refl _
            · intro hb; subst hb; replace h1 := cf h1
              refine c_skip ?_
              refine c_nil (bn4 _ ?_)
              refine c_reg ?_; intro K hK
              refine st rfl rfl rfl (yv_move rfl rfl) ?_
              obtain ⟨x18, e18, h1⟩ := bnd_e h1
              refine st rfl rfl rfl (yv_add rfl rfl rfl e18) ?_
              refine st rfl rfl rfl (yv_assign rfl rfl) ?_
              refine rg_nil (hK _ ?_)
              refine c_nil (ln3 _ ⟨x18, (), h1, leH_kn ⟨⟨_, rfl, (.refl _)⟩, ⟨_, rfl, (.refl _)⟩, ⟨_, rfl, (.refl _)⟩, ⟨_, rfl, (.refl _)⟩, trivial⟩ ⟨⟨_, rfl, (.refl _)⟩, ⟨_, rfl, (.refl _)⟩, trivial⟩⟩)
          · intro hb; subst hb; replace h1 := cf h1
            refine c_exit (lx3 _ _ (bx2 _ ?_))
            obtain rfl := brk_e h1
            refine c_nil (jn1 _ ⟨(), (), rfl, leH_kn ⟨⟨_, rfl, (.refl _)⟩, ⟨_, rfl, (.refl _)⟩, ⟨_, rfl, (.refl _)⟩, trivial⟩ ⟨⟨_, rfl, (.refl _)⟩, ⟨_, rfl, (.refl _)⟩, trivial⟩⟩)
        · rintro _ _ rfl
          replace h0 := sel_l h0
          refine c_show ⟨kn [(2, .pt 1 v3 0 0), (3, .pt 2 v4 0 0), (4, boo false)], hk [(1, ⟨66, 8, true, true, v3, [[int a1.Now, boo a1.Closed, lst 4 GPool.av a1.Pools, lst 1 fI a1.Bal, lst 11 GRoll.av a1.Rolls, lst 1 fI a1.Prices, lst 1 fI a1.Down, lst 8 GEnt.av a1.Ahead]]⟩), (2, ⟨66, 8, true, true, v4, [[int a2.Now, boo a2.Closed, lst 4 GPool.av a2.Pools, lst 1 fI a2.Bal, lst 11 GRoll.av a2.Rolls, lst 1 fI a2.Prices, lst 1 fI a2.Down, lst 8 GEnt.av a2.Ahead]]⟩)]⟩ ?_
          refine c_seq ?_
          refine c_seq ?_
          refine c_reg ?_; intro K hK
          refine st rfl rfl rfl (yv_assign rfl rfl) ?_
          refine rg_nil (hK _ ?_)
          obtain ⟨j19, h1, h0⟩ := bind_e h0
          refine c_joinL (fun (a : Unit) (k : Unit) => ⟨kn [(2, .pt 1 v3 0 0), (3, .pt 2 v4 0 0), (4, boo false)], hk [(1, ⟨66, 8, true, true, v3, [[int a1.Now, boo a1.Closed, lst 4 GPool.av a1.Pools, lst 1 fI a1.Bal, lst 11 GRoll.av a1.Rolls, lst 1 fI a1.Prices, lst 1 fI a1.Down, lst 8 GEnt.av a1.Ahead]]⟩), (2, ⟨66, 8, true, true, v4, [[int a2.Now, boo a2.Closed, lst 4 GPool.av a2.Pools, lst 1 fI a2.Bal, lst 11 GRoll.av a2.Rolls, lst 1 fI a2.Prices, lst 1 fI a2.Down, lst 8 GEnt.av a2.Ahead]]⟩)]⟩) (fun a => j19 = .inl a) ?_ ?_
          · intro Q1 jn1 jx1 jr1
            refine c_block ?_; intro Q2 bn2 bx2 br2 bo2
            refine c_loopD (fun (a : Int) (k : Unit) => ⟨kn [(2, .pt 1 v3 0 0), (3, .pt 2 v4 0 0), (4, boo false), (6, int a)], hk [(1, ⟨66, 8, true, true, v3, [[int a1.Now, boo a1.Closed, lst 4 GPool.av a1.Pools, lst 1 fI a1.Bal, lst 11 GRoll.av a1.Rolls, lst 1 fI a1.Prices, lst 1 fI a1.Down, lst 8 GEnt.av a1.Ahead]]⟩), (2, ⟨66, 8, true, true, v4, [[int a2.Now, boo a2.Closed, lst 4 GPool.av a2.Pools, lst 1 fI a2.Bal, lst 11 GRoll.av a2.Rolls, lst 1 fI a2.Prices, lst 1 fI a2.Down, lst 8 GEnt.av a2.Ahead]]⟩)]⟩) (fun n (a : Int) => d_ref14_sameEnt_L1 a1 a2 n a) (0 : Int) () h1 (fun _ => rfl)
              (leH_kn ⟨⟨_, rfl, (.refl _)⟩, ⟨_, rfl, (.refl _)⟩, ⟨_, rfl, (.refl _)⟩, ⟨_, rfl, (.refl _)⟩, trivial⟩ ⟨⟨_, rfl, (.refl _)⟩, ⟨_, rfl, (.refl _)⟩, trivial⟩) ?_
            rintro n y3_1 _ hm h1 Q3 ln3 lx3 lr3
            replace h1 : d_ref14_sameEnt_L1 a1 a2 (n + 1) y3_1 = some _ := h1
            replace hN := Nat.lt_trans (Nat.lt_of_succ_le hm) hN
            rw [d_ref14_sameEnt_L1] at h1
            refine c_show ⟨kn [(2, .pt 1 v3 0 0), (3, .pt 2 v4 0 0), (4, boo false), (6, int y3_1)], hk [(1, ⟨66, 8, true, true, v3, [[int a1.Now, boo a1.Closed, lst 4 GPool.av a1.Pools, lst 1 fI a1.Bal, lst 11 GRoll.av a1.Rolls, lst 1 fI a1.Prices, lst 1 fI a1.Down, lst 8 GEnt.av a1.Ahead]]⟩), (2, ⟨66, 8, true, true, v4, [[int a2.Now, boo a2.Closed, lst 4 GPool.av a2.Pools, lst 1 fI a2.Bal, lst 11 GRoll.av a2.Rolls, lst 1 fI a2.Prices, lst 1 fI a2.Down, lst 8 GEnt.av a2.Ahead]]⟩)]⟩ ?_
            refine c_seq ?_
            refine c_seq ?_
            refine c_reg ?_; intro K hK
            refine st rfl rfl rfl (yv_move rfl rfl) ?_
            refine st rfl rfl rfl (yv_fieldAddr rfl fo66_4 rfl (.pt rfl rfl rfl) (.pt _ _ _ _ _)) ?_
            refine st rfl rfl rfl (yv_load rfl sh64 rfl (.pt rfl rfl rfl) rfl) ?_
            refine st rfl rfl rfl (yv_len_sl rfl Try.underlying64 rfl (lst_len _)) ?_
            obtain ⟨x20, e20, h1⟩ := bnd_e h1
            refine st rfl rfl rfl (yv_to (y := boo x20) (yv_lss rfl rfl rfl) (congrArg boo e20)) ?_
            refine rg_nil (hK _ ?_)
            refine c_if (b := x20) rfl ?_ ?_
            · intro hb; subst hb; replace h1 := ct h1
              refine c_skip ?_
              refine c_seq ?_
              refine c_block ?_; intro Q4 bn4 bx4 br4 bo4
              refine c_seq ?_
              refine c_drawE [0, 1, 0, 7, 15, 31, 0, 64, 0, 448, 960, 2047, 4095] (fun i => bif Nat.beq i 0 then ([1]) else bif Nat.beq i 1 then ([1]) else bif Nat.beq i 6 then ([2]) else bif Nat.beq i 7 then ([2]) else []) (fun i => [1, 2]) (fun i => true) [0, 1, 2, 3, 4, 5, 6, 7, 8, 9, 10, 11, 12] mixed (by kernel_rfl) ?_; intro K hK
              refine de_pure rfl rfl rfl rfl (fun H hH => yv_fieldAddr rfl fo66_4 rfl (.pt ((hH _ (by decide)).trans rfl) rfl rfl) (.pt _ _ _ _ _)) ?_
              refine de_pure rfl rfl rfl rfl (fun H hH => yv_load rfl sh64 rfl (.pt ((hH _ (by decide)).trans rfl) rfl rfl) rfl) ?_
              refine de_pure rfl rfl rfl rfl (fun H hH => yv_move rfl rfl) ?_
              obtain ⟨x21, e21, h1⟩ := bind_e h1
              refine de_pure rfl rfl rfl rfl (fun H hH => yv_ixT rfl Try.underlying64 sh68 rfl rfl e21) ?_
              refine de_pure rfl rfl rfl rfl (fun H hH => yv_load rfl sh68 rfl (.pp _) rfl) ?_
              obtain ⟨x22, e22, h1⟩ := bind_e h1
              refine de_pure rfl rfl rfl rfl (fun H hH => yv_callP rfl rfl (.cons rfl .nil) cal70 (CvL.refl _) (d_ref14_Numbers_c e22)) ?_
              refine de_pure rfl rfl rfl rfl (fun H hH => yv_fieldAddr rfl fo66_4 rfl (.pt ((hH _ (by decide)).trans rfl) rfl rfl) (.pt _ _ _ _ _)) ?_
              refine de_pure rfl rfl rfl rfl (fun H hH => yv_load rfl sh64 rfl (.pt ((hH _ (by decide)).trans rfl) rfl rfl) rfl) ?_
              refine de_pure rfl rfl rfl rfl (fun H hH => yv_move rfl rfl) ?_
              obtain ⟨x23, e23, h1⟩ := bind_e h1
              refine de_pure rfl rfl rfl rfl (fun H hH => yv_ixT rfl Try.underlying64 sh68 rfl rfl e23) ?_
              refine de_pure rfl rfl rfl rfl (fun H hH => yv_load rfl sh68 rfl (.pp _) rfl) ?_
              obtain ⟨x24, e24, h1⟩ := bind_e h1
              refine de_pure rfl rfl rfl rfl (fun H hH => yv_callP rfl rfl (.cons rfl .nil) cal70 (CvL.refl _) (d_ref14_Numbers_c e24)) ?_
              obtain ⟨x25, e25, h1⟩ := bnd_e h1
              refine de_pure rfl rfl rfl rfl (fun H hH => yv_arneq (r' := x25) rfl Try.underlying110 sz3 c3 (by decide) rfl rfl (.cons (.int Try.underlying3) sh3 (.cons (.int Try.underlying3) sh3 (.cons (.int Try.underlying3) sh3 (.cons (.int Try.underlying3) sh3 (.cons (.int Try.underlying3) sh3 (.cons (.int Try.underlying3) sh3 (.cons (.int Try.underlying3) sh3 (.cons (.int Try.underlying3) sh3 (.cons (.int Try.underlying3) sh3 (.cons (.int Try.underlying3) sh3 (.cons (.int Try.underlying3) sh3 (.nil _)))))))))))) ((congrArg Bool.not (A11_Int.eqv (x22 : A11_Int) (x24 : A11_Int))).trans e25)) ?_
              refine de_nil (hK _ ?_)
              refine c_if (b := x25) rfl ?_ ?_
              · intro hb; subst hb; replace h1 := ct h1
                refine c_seq ?_
                refine c_reg ?_; intro K hK
                refine st rfl rfl rfl (yv_assign rfl rfl) ?_
                refine rg_nil (hK _ ?_)
                obtain ⟨c26, hX, hj⟩ := esc_e h1; subst hj; replace h0 := hX.trans (sel_r h0)
                obtain rfl := nxt_e h0
                refine c_ret (br4 _ (lr3 _ (br2 _ (jr1 _ (hret _ _ _ (.tmp rfl .nil) (fun _ _ h => h) ?_)))))
                exact .refl _
              · intro hb; subst hb; replace h1 := cf h1
                refine c_skip ?_
                refine c_nil (bn4 _ ?_)
                refine c_reg ?_; intro K hK
                refine st rfl rfl rfl (yv_move rfl rfl) ?_
                obtain ⟨x27, e27, h1⟩ := bnd_e h1
                refine st rfl rfl rfl (yv_add rfl rfl rfl e27) ?_
                refine st rfl rfl rfl (yv_assign rfl rfl) ?_
                refine rg_nil (hK _ ?_)
                refine c_nil (ln3 _ ⟨x27, (), h1, leH_kn ⟨⟨_, rfl, (.refl _)⟩, ⟨_, rfl, (.refl _)⟩, ⟨_, rfl, (.refl _)⟩, ⟨_, rfl, (.refl _)⟩, trivial⟩ ⟨⟨_, rfl, (.refl _)⟩, ⟨_, rfl, (.refl _)⟩, trivial⟩⟩)
            · intro hb; subst hb; replace h1 := cf h1
              refine c_exit (lx3 _ _ (bx2 _ ?_))
              obtain rfl := brk_e h1
              refine c_nil (jn1 _ ⟨(), (), rfl, leH_kn ⟨⟨_, rfl, (.refl _)⟩, ⟨_, rfl, (.refl _)⟩, ⟨_, rfl, (.refl _)⟩, trivial⟩ ⟨⟨_, rfl, (.refl _)⟩, ⟨_, rfl, (.refl _)⟩, trivial⟩⟩)
          · rintro _ _ rfl
            replace h0 := sel_l h0
            refine c_show ⟨kn [(2, .pt 1 v3 0 0), (3, .pt 2 v4 0 0), (4, boo false)], hk [(1, ⟨66, 8, true, true, v3, [[int a1.Now, boo a1.Closed, lst 4 GPool.av a1.Pools, lst 1 fI a1.Bal, lst 11 GRoll.av a1.Rolls, lst 1 fI a1.Prices, lst 1 fI a1.Down, lst 8 GEnt.av a1.Ahead]]⟩), (2, ⟨66, 8, true, true, v4, [[int a2.Now, boo a2.Closed, lst 4 GPool.av a2.Pools, lst 1 fI a2.Bal, lst 11 GRoll.av a2.Rolls, lst 1 fI a2.Prices, lst 1 fI a2.Down, lst 8 GEnt.av a2.Ahead]]⟩)]⟩ ?_
            refine c_seq ?_
            refine c_seq ?_
            refine c_reg ?_; intro K hK
            refine st rfl rfl rfl (yv_assign rfl rfl) ?_
            refine rg_nil (hK _ ?_)
            obtain ⟨j28, h1, h0⟩ := bind_e h0
            refine c_joinL (fun (a : Unit) (k : Unit) => ⟨kn [(2, .pt 1 v3 0 0), (3, .pt 2 v4 0 0), (4, boo false)], hk [(1, ⟨66, 8, true, true, v3, [[int a1.Now, boo a1.Closed, lst 4 GPool.av a1.Pools, lst 1 fI a1.Bal, lst 11 GRoll.av a1.Rolls, lst 1 fI a1.Prices, lst 1 fI a1.Down, lst 8 GEnt.av a1.Ahead]]⟩), (2, ⟨66, 8, true, true, v4, [[int a2.Now, boo a2.Closed, lst 4 GPool.av a2.Pools, lst 1 fI a2.Bal, lst 11 GRoll.av a2.Rolls, lst 1 fI a2.Prices, lst 1 fI a2.Down, lst 8 GEnt.av a2.Ahead]]⟩)]⟩) (fun a => j28 = .inl a) ?_ ?_
            · intro Q1 jn1 jx1 jr1
              refine c_block ?_; intro Q2 bn2 bx2 br2 bo2
              refine c_loopD (fun (a : Int) (k : Unit) => ⟨kn [(2, .pt 1 v3 0 0), (3, .pt 2 v4 0 0), (4, boo false), (7, int a)], hk [(1, ⟨66, 8, true, true, v3, [[int a1.Now, boo a1.Closed, lst 4 GPool.av a1.Pools, lst 1 fI a1.Bal, lst 11 GRoll.av a1.Rolls, lst 1 fI a1.Prices, lst 1 fI a1.Down, lst 8 GEnt.av a1.Ahead]]⟩), (2, ⟨66, 8, true, true, v4, [[int a2.Now, boo a2.Closed, lst 4 GPool.av a2.Pools, lst 1 fI a2.Bal, lst 11 GRoll.av a2.Rolls, lst 1 fI a2.Prices, lst 1 fI a2.Down, lst 8 GEnt.av a2.Ahead]]⟩)]⟩) (fun n (a : Int) => d_ref14_sameEnt_L2 a1 a2 n a) (0 : Int) () h1 (fun _ => rfl)
                (leH_kn ⟨⟨_, rfl, (.refl _)⟩, ⟨_, rfl, (.refl _)⟩, ⟨_, rfl, (.refl _)⟩, ⟨_, rfl, (.refl _)⟩, trivial⟩ ⟨⟨_, rfl, (.refl _)⟩, ⟨_, rfl, (.refl _)⟩, trivial⟩) ?_
              rintro n y5_1 _ hm h1 Q3 ln3 lx3 lr3
              replace h1 : d_ref14_sameEnt_L2 a1 a2 (n + 1) y5_1 = some _ := h1
              replace hN := Nat.lt_trans (Nat.lt_of_succ_le hm) hN
              rw [d_ref14_sameEnt_L2] at h1
              refine c_show ⟨kn [(2, .pt 1 v3 0 0), (3, .pt 2 v4 0 0), (4, boo false), (7, int y5_1)], hk [(1, ⟨66, 8, true, true, v3, [[int a1.Now, boo a1.Closed, lst 4 GPool.av a1.Pools, lst 1 fI a1.Bal, lst 11 GRoll.av a1.Rolls, lst 1 fI a1.Prices, lst 1 fI a1.Down, lst 8 GEnt.av a1.Ahead]]⟩), (2, ⟨66, 8, true, true, v4, [[int a2.Now, boo a2.Closed, lst 4 GPool.av a2.Pools, lst 1 fI a2.Bal, lst 11 GRoll.av a2.Rolls, lst 1 fI a2.Prices, lst 1 fI a2.Down, lst 8 GEnt.av a2.Ahead]]⟩)]⟩ ?_
              refine c_seq ?_
              refine c_seq ?_
              refine c_reg ?_; intro K hK
              refine st rfl rfl rfl (yv_move rfl rfl) ?_
              refine st rfl rfl rfl (yv_fieldAddr rfl fo66_7 rfl (.pt rfl rfl rfl) (.pt _ _ _ _ _)) ?_
              refine st rfl rfl rfl (yv_load rfl sh48 rfl (.pt rfl rfl rfl) rfl) ?_
              refine st rfl rfl rfl (yv_len_sl rfl Try.underlying48 rfl (lst_len _)) ?_
              obtain ⟨x29, e29, h1⟩ := bnd_e h1
              refine st rfl rfl rfl (yv_to (y := boo x29) (yv_lss rfl rfl rfl) (congrArg boo e29)) ?_
              refine rg_nil (hK _ ?_)
              refine c_if (b := x29) rfl ?_ ?_
              · intro hb; subst hb; replace h1 := ct h1
                refine c_skip ?_
                refine c_seq ?_
                refine c_block ?_; intro Q4 bn4 bx4 br4 bo4
                refine c_seq ?_
                refine c_drawE [0, 1, 0, 7, 15, 0, 32, 0, 224, 480, 1023, 2047] (fun i => bif Nat.beq i 0 then ([1]) else bif Nat.beq i 1 then ([1]) else bif Nat.beq i 5 then ([2]) else bif Nat.beq i 6 then ([2]) else []) (fun i => [1, 2]) (fun i => true) [0, 1, 2, 3, 4, 5, 6, 7, 8, 9, 10, 11] mixed (by kernel_rfl) ?_; intro K hK
                refine de_pure rfl rfl rfl rfl (fun H hH => yv_fieldAddr rfl fo66_7 rfl (.pt ((hH _ (by decide)).trans rfl) rfl rfl) (.pt _ _ _ _ _)) ?_
                refine de_pure rfl rfl rfl rfl (fun H hH => yv_load rfl sh48 rfl (.pt ((hH _ (by decide)).trans rfl) rfl rfl) rfl) ?_
                refine de_pure rfl rfl rfl rfl (fun H hH => yv_move rfl rfl) ?_
                obtain ⟨x30, e30, h1⟩ := bind_e h1
                refine de_pure rfl rfl rfl rfl (fun H hH => yv_to (y := .pp [int x30.Now, boo x30.Closed, lst 4 GPool.av x30.Pools, lst 1 fI x30.Bal, lst 11 GRoll.av x30.Rolls, lst 1 fI x30.Prices, lst 1 fI x30.Down, lst 8 GEnt.av x30.Ahead]) (yv_ixT rfl Try.underlying48 sh66 rfl rfl e30) (congrArg AV.pp (GEnt.av_eq x30))) ?_
                refine de_pure rfl rfl rfl rfl (fun H hH => yv_load rfl sh66 rfl (.pp _) rfl) ?_
                refine de_pure rfl rfl rfl rfl (fun H hH => yv_fieldAddr rfl fo66_7 rfl (.pt ((hH _ (by decide)).trans rfl) rfl rfl) (.pt _ _ _ _ _)) ?_
                refine de_pure rfl rfl rfl rfl (fun H hH => yv_load rfl sh48 rfl (.pt ((hH _ (by decide)).trans rfl) rfl rfl) rfl) ?_
                refine de_pure rfl rfl rfl rfl (fun H hH => yv_move rfl rfl) ?_
                obtain ⟨x31, e31, h1⟩ := bind_e h1
                refine de_pure rfl rfl rfl rfl (fun H hH => yv_to (y := .pp [int x31.Now, boo x31.Closed, lst 4 GPool.av x31.Pools, lst 1 fI x31.Bal, lst 11 GRoll.av x31.Rolls, lst 1 fI x31.Prices, lst 1 fI x31.Down, lst 8 GEnt.av x31.Ahead]) (yv_ixT rfl Try.underlying48 sh66 rfl rfl e31) (congrArg AV.pp (GEnt.av_eq x31))) ?_
                refine de_pure rfl rfl rfl rfl (fun H hH => yv_load rfl sh66 rfl (.pp _) rfl) ?_
                obtain ⟨x32, e32, h1⟩ := bind_e h1
                refine de_pure rfl rfl rfl rfl (fun H hH => yv_callP rfl rfl (.cons rfl (.cons rfl .nil)) cal62 (CvL.refl _) (ih _ hN e32)) ?_
                obtain ⟨x33, e33, h1⟩ := bnd_e h1
                refine de_pure rfl rfl rfl rfl (fun H hH => yv_not rfl rfl e33) ?_
                refine de_nil (hK _ ?_)
                refine c_if (b := x33) rfl ?_ ?_
                · intro hb; subst hb; replace h1 := ct h1
                  refine c_seq ?_
                  refine c_reg ?_; intro K hK
                  refine st rfl rfl rfl (yv_assign rfl rfl) ?_
                  refine rg_nil (hK _ ?_)
                  obtain ⟨c34, hX, hj⟩ := esc_e h1; subst hj; replace h0 := hX.trans (sel_r h0)
                  obtain rfl := nxt_e h0
                  refine c_ret (br4 _ (lr3 _ (br2 _ (jr1 _ (hret _ _ _ (.tmp rfl .nil) (fun _ _ h => h) ?_)))))
                  exact .refl _
                · intro hb; subst hb; replace h1 := cf h1
                  refine c_skip ?_
                  refine c_nil (bn4 _ ?_)
                  refine c_reg ?_; intro K hK
                  refine st rfl rfl rfl (yv_move rfl rfl) ?_
                  obtain ⟨x35, e35, h1⟩ := bnd_e h1
                  refine st rfl rfl rfl (yv_add rfl rfl rfl e35) ?_
                  refine st rfl rfl rfl (yv_assign rfl rfl) ?_
                  refine rg_nil (hK _ ?_)
                  refine c_nil (ln3 _ ⟨x35, (), h1, leH_kn ⟨⟨_, rfl, (.refl _)⟩, ⟨_, rfl, (.refl _)⟩, ⟨_, rfl, (.refl _)⟩, ⟨_, rfl, (.refl _)⟩, trivial⟩ ⟨⟨_, rfl, (.refl _)⟩, ⟨_, rfl, (.refl _)⟩, trivial⟩⟩)
              · intro hb; subst hb; replace h1 := cf h1
                refine c_exit (lx3 _ _ (bx2 _ ?_))
                obtain rfl := brk_e h1
                refine c_nil (jn1 _ ⟨(), (), rfl, leH_kn ⟨⟨_, rfl, (.refl _)⟩, ⟨_, rfl, (.refl _)⟩, ⟨_, rfl, (.refl _)⟩, trivial⟩ ⟨⟨_, rfl, (.refl _)⟩, ⟨_, rfl, (.refl _)⟩, trivial⟩⟩)
            · rintro _ _ rfl
              replace h0 := sel_l h0
              refine c_show ⟨kn [(2, .pt 1 v3 0 0), (3, .pt 2 v4 0 0), (4, boo false)], hk [(1, ⟨66, 8, true, true, v3, [[int a1.Now, boo a1.Closed, lst 4 GPool.av a1.Pools, lst 1 fI a1.Bal, lst 11 GRoll.av a1.Rolls, lst 1 fI a1.Prices, lst 1 fI a1.Down, lst 8 GEnt.av a1.Ahead]]⟩), (2, ⟨66, 8, true, true, v4, [[int a2.Now, boo a2.Closed, lst 4 GPool.av a2.Pools, lst 1 fI a2.Bal, lst 11 GRoll.av a2.Rolls, lst 1 fI a2.Prices, lst 1 fI a2.Down, lst 8 GEnt.av a2.Ahead]]⟩)]⟩ ?_
              refine c_seq ?_
              obtain ⟨j36, h1, h0⟩ := bind_e h0
              refine c_regL (fun (a : Bool) (k : Unit) => ⟨kn [(4, boo a)], hk []⟩) (fun a => a = j36) ?_ ?_
              · intro K hK
                refine st rfl rfl rfl (yv_fieldAddr rfl fo66_3 rfl (.pt rfl rfl rfl) (.pt _ _ _ _ _)) ?_
                refine st rfl rfl rfl (yv_load rfl sh22 rfl (.pt rfl rfl rfl) rfl) ?_
                refine st rfl rfl rfl (yv_fieldAddr rfl fo66_3 rfl (.pt rfl rfl rfl) (.pt _ _ _ _ _)) ?_
                refine st rfl rfl rfl (yv_load rfl sh22 rfl (.pt rfl rfl rfl) rfl) ?_
                obtain ⟨x37, e37, h1⟩ := bind_e h1
                refine st rfl rfl rfl (yv_callP rfl rfl (.cons rfl (.cons rfl .nil)) cal16 (CvL.refl _) (d_ref04_SameInts_c e37)) ?_
                refine st rfl rfl rfl (yv_move rfl rfl) ?_
                refine scases 110 rfl ?_ ?_
                · intro hb; subst hb; replace h1 := ct h1
                  refine st rfl rfl rfl (yv_fieldAddr rfl fo66_5 rfl (.pt rfl rfl rfl) (.pt _ _ _ _ _)) ?_
                  refine st rfl rfl rfl (yv_load rfl sh22 rfl (.pt rfl rfl rfl) rfl) ?_
                  refine st rfl rfl rfl (yv_fieldAddr rfl fo66_5 rfl (.pt rfl rfl rfl) (.pt _ _ _ _ _)) ?_
                  refine st rfl rfl rfl (yv_load rfl sh22 rfl (.pt rfl rfl rfl) rfl) ?_
                  obtain ⟨x38, e38, h1⟩ := bind_e h1
                  refine st rfl rfl rfl (yv_callP rfl rfl (.cons rfl (.cons rfl .nil)) cal16 (CvL.refl _) (d_ref04_SameInts_c e38)) ?_
                  refine st rfl rfl rfl (yv_pick rfl rfl (fun _ => rfl) (fun _ => rfl) rfl) ?_
                  refine st rfl rfl rfl (yv_move rfl rfl) ?_
                  refine scases 117 rfl ?_ ?_
                  · intro hb; subst hb; replace h1 := ct h1
                    refine st rfl rfl rfl (yv_fieldAddr rfl fo66_6 rfl (.pt rfl rfl rfl) (.pt _ _ _ _ _)) ?_
                    refine st rfl rfl rfl (yv_load rfl sh22 rfl (.pt rfl rfl rfl) rfl) ?_
                    refine st rfl rfl rfl (yv_fieldAddr rfl fo66_6 rfl (.pt rfl rfl rfl) (.pt _ _ _ _ _)) ?_
                    refine st rfl rfl rfl (yv_load rfl sh22 rfl (.pt rfl rfl rfl) rfl) ?_
                    obtain ⟨x39, e39, h1⟩ := bind_e h1
                    refine st rfl rfl rfl (yv_callP rfl rfl (.cons rfl (.cons rfl .nil)) cal16 (CvL.refl _) (d_ref04_SameInts_c e39)) ?_
                    refine st rfl rfl rfl (yv_pick rfl rfl (fun _ => rfl) (fun _ => rfl) rfl) ?_
                    refine st rfl rfl rfl (yv_assign rfl rfl) ?_
                    obtain rfl := nxt_e h1
                    refine rg_nil (hK _ ⟨x39, (), rfl, leH_kn ⟨⟨_, rfl, (.refl _)⟩, trivial⟩ trivial⟩)
                  · intro hb; subst hb; replace h1 := cf h1
                    refine sk rfl rfl rfl ?_
                    refine sk rfl rfl rfl ?_
                    refine sk rfl rfl rfl ?_
                    refine sk rfl rfl rfl ?_
                    refine sk rfl rfl rfl ?_
                    refine st rfl rfl rfl (yv_pick rfl rfl (fun _ => rfl) (fun _ => rfl) rfl) ?_
                    refine st rfl rfl rfl (yv_assign rfl rfl) ?_
                    obtain rfl := nxt_e h1
                    refine rg_nil (hK _ ⟨false, (), rfl, leH_kn ⟨⟨_, rfl, (.refl _)⟩, trivial⟩ trivial⟩)
                · intro hb; subst hb; replace h1 := cf h1
                  refine sk rfl rfl rfl ?_
                  refine sk rfl rfl rfl ?_
                  refine sk rfl rfl rfl ?_
                  refine sk rfl rfl rfl ?_
                  refine sk rfl rfl rfl ?_
                  refine st rfl rfl rfl (yv_pick rfl rfl (fun _ => rfl) (fun _ => rfl) rfl) ?_
                  refine st rfl rfl rfl (yv_move rfl rfl) ?_
                  refine sk rfl rfl rfl ?_
                  refine sk rfl rfl rfl ?_
                  refine sk rfl rfl rfl ?_
                  refine sk rfl rfl rfl ?_
                  refine sk rfl rfl rfl ?_
                  refine st rfl rfl rfl (yv_pick rfl rfl (fun _ => rfl) (fun _ => rfl) rfl) ?_
                  refine st rfl rfl rfl (yv_assign rfl rfl) ?_
                  obtain rfl := nxt_e h1
                  refine rg_nil (hK _ ⟨false, (), rfl, leH_kn ⟨⟨_, rfl, (.refl _)⟩, trivial⟩ trivial⟩)
              · rintro y7_1 _ rfl
                refine c_show ⟨kn [(4, boo y7_1)], hk []⟩ ?_
                obtain rfl := nxt_e h0
                refine c_ret (hret _ _ _ (.tmp rfl .nil) (fun _ _ h => h) ?_)
                exact .refl _
def d_ref14_Same_L0 (a1 : GState) (a2 : GState) : Nat → Int → Option ((Unit) ⊕ (Bool))
  | 0, _ => none
  | n + 1, y1_1 =>
    bnd (decide (y1_1 < (a1.Ents.length : Int))) fun (x13 : Bool) =>
    cond x13 ((ix a1.Ents y1_1).bind fun (x14 : GEnt) =>
    (ix a2.Ents y1_1).bind fun (x15 : GEnt) =>
    (d_ref14_sameEnt n x14 x15).bind fun (x16 : Bool) =>
    bnd (!x16) fun (x17 : Bool) =>
    cond x17 (esc (some ((false : Bool)))) (bnd (w64 (y1_1 + 1)) fun (x19 : Int) =>
    d_ref14_Same_L0 a1 a2 n (x19 : Int))) (brk ())
def d_ref14_Same (n : Nat) (a1 : GState) (a2 : GState) : Option (Bool) :=
(show Option (Bool) from
(d_ref04_Same n a1.Master a2.Master).bind fun (x6 : Bool) =>
bnd (!x6) fun (x7 : Bool) =>
cond x7 (some (true : Bool)) (bnd (decide ((a1.Ents.length : Int) ≠ (a2.Ents.length : Int))) fun (x8 : Bool) =>
cond x8 (some (true : Bool)) (bnd (decide (a1.Done ≠ a2.Done)) fun (x9 : Bool) =>
cond x9 (some (true : Bool)) ((d_ref14_samePapers n a1 a2).bind fun (x10 : Bool) =>
bnd (!x10) fun (x11 : Bool) =>
some (x11 : Bool))))).bind <| fun (y0_1 : Bool) =>
cond y0_1 (some ((false : Bool))) ((show Option ((Unit) ⊕ (Bool)) from
d_ref14_Same_L0 a1 a2 n (0 : Int)).bind <| sel <| fun (_ : Unit) =>
some ((true : Bool)))
theorem d_ref14_Same_c {n : Nat} {a1 : GState} {a2 : GState} {r : Bool} (h0 : d_ref14_Same n a1 a2 = some r) : PP Try.prog 36 [.agg (GState.av a1), .agg (GState.av a2)] (fun y => y = boo r) := by
  unfold d_ref14_Same at h0
  refine pp_of_pc (R0 := fun y H => Cv (frzH H) y (boo r)) ?_ (fun y H hc => ⟨_, rfl, pvB r, hc⟩)
  refine pc_of' (c := _) Try.func36 rfl rfl ?_; intro Q hret hnorm
  refine c_seq ?_
  refine c_reg ?_; intro K hK
  refine se rfl rfl rfl (yl_box 1 .any rfl rfl rfl) ?_; rintro _ _ ⟨v3, -, rfl, rfl⟩
  refine se rfl rfl rfl (yl_box 2 .any rfl rfl rfl) ?_; rintro _ _ ⟨v4, -, rfl, rfl⟩
  refine st rfl rfl rfl (yv_assign rfl rfl) ?_
  refine rg_nil (hK _ ?_)
  refine c_seq ?_
  refine c_seq ?_
  obtain ⟨j5, h1, h0⟩ := bind_e h0
  refine c_regL (fun (a : Bool) (k : Unit) => ⟨kn [(2, .pt 1 v3 0 0), (3, .pt 2 v4 0 0), (4, boo false), (33, boo a)], hk [(1, ⟨53, 10, true, true, v3, [[int a1.Master.Entities, int a1.Master.Periods, lst 1 fI a1.Master.Weights, lst 1 (fL 1 fI) a1.Master.Methods, lst 1 (fL 1 fI) a1.Master.Costs, lst 8 GEnt.av a1.Ents, lst 8 GReceipt.av a1.Receipts, lst 9 GSale.av a1.Sales, lst 6 GTransit.av a1.Transits, int a1.Done]]⟩), (2, ⟨53, 10, true, true, v4, [[int a2.Master.Entities, int a2.Master.Periods, lst 1 fI a2.Master.Weights, lst 1 (fL 1 fI) a2.Master.Methods, lst 1 (fL 1 fI) a2.Master.Costs, lst 8 GEnt.av a2.Ents, lst 8 GReceipt.av a2.Receipts, lst 9 GSale.av a2.Sales, lst 6 GTransit.av a2.Transits, int a2.Done]]⟩)]⟩) (fun a => a = j5) ?_ ?_
  · intro K hK
    refine st rfl rfl rfl (yv_fieldAddr rfl fo53_0 rfl (.pt rfl rfl rfl) (.pt _ _ _ _ _)) ?_
    refine st rfl rfl rfl (yv_load rfl sh43 rfl (.pt rfl rfl rfl) rfl) ?_
    refine st rfl rfl rfl (yv_fieldAddr rfl fo53_0 rfl (.pt rfl rfl rfl) (.pt _ _ _ _ _)) ?_
    refine st rfl rfl rfl (yv_load rfl sh43 rfl (.pt rfl rfl rfl) rfl) ?_
    obtain ⟨x6, e6, h1⟩ := bind_e h1
    refine st rfl rfl rfl (yv_callP rfl rfl (.cons rfl (.cons rfl .nil)) cal33 (CvL.refl _) (d_ref04_Same_c e6)) ?_
    obtain ⟨x7, e7, h1⟩ := bnd_e h1
    refine st rfl rfl rfl (yv_not rfl rfl e7) ?_
    refine st rfl rfl rfl (yv_move rfl rfl) ?_
    refine scases 12 rfl ?_ ?_
    · intro hb; subst hb; replace h1 := ct h1
      refine sk rfl rfl rfl ?_
      refine sk rfl rfl rfl ?_
      refine sk rfl rfl rfl ?_
      refine sk rfl rfl rfl ?_
      refine sk rfl rfl rfl ?_
      refine sk rfl rfl rfl ?_
      refine sk rfl rfl rfl ?_
      refine st rfl rfl rfl (yv_pick rfl rfl (fun _ => rfl) (fun _ => rfl) rfl) ?_
      refine st rfl rfl rfl (yv_move rfl rfl) ?_
      refine sk rfl rfl rfl ?_
      refine sk rfl rfl rfl ?_
      refine sk rfl rfl rfl ?_
      refine sk rfl rfl rfl ?_
      refine sk rfl rfl rfl ?_
      refine st rfl rfl rfl (yv_pick rfl rfl (fun _ => rfl) (fun _ => rfl) rfl) ?_
      refine st rfl rfl rfl (yv_move rfl rfl) ?_
      refine sk rfl rfl rfl ?_
      refine sk rfl rfl rfl ?_
      refine sk rfl rfl rfl ?_
      refine sk rfl rfl rfl ?_
      refine st rfl rfl rfl (yv_pick rfl rfl (fun _ => rfl) (fun _ => rfl) rfl) ?_
      obtain rfl := nxt_e h1
      refine rg_nil (hK _ ⟨true, (), rfl, leH_kn ⟨⟨_, rfl, (.refl _)⟩, ⟨_, rfl, (.refl _)⟩, ⟨_, rfl, (.refl _)⟩, ⟨_, rfl, (.refl _)⟩, trivial⟩ ⟨⟨_, rfl, (.refl _)⟩, ⟨_, rfl, (.refl _)⟩, trivial⟩⟩)
    · intro hb; subst hb; replace h1 := cf h1
      refine st rfl rfl rfl (yv_fieldAddr rfl fo53_1 rfl (.pt rfl rfl rfl) (.pt _ _ _ _ _)) ?_
      refine st rfl rfl rfl (yv_load rfl sh48 rfl (.pt rfl rfl rfl) rfl) ?_
      refine st rfl rfl rfl (yv_len_sl rfl Try.underlying48 rfl (lst_len _)) ?_
      refine st rfl rfl rfl (yv_fieldAddr rfl fo53_1 rfl (.pt rfl rfl rfl) (.pt _ _ _ _ _)) ?_
      refine st rfl rfl rfl (yv_load rfl sh48 rfl (.pt rfl rfl rfl) rfl) ?_
      refine st rfl rfl rfl (yv_len_sl rfl Try.underlying48 rfl (lst_len _)) ?_
      obtain ⟨x8, e8, h1⟩ := bnd_e h1
      refine st rfl rfl rfl (yv_to (y := boo x8) (yv_neq rfl rfl rfl) (congrArg boo e8)) ?_
      refine st rfl rfl rfl (yv_pick rfl rfl (fun _ => rfl) (fun _ => rfl) rfl) ?_
      refine st rfl rfl rfl (yv_move rfl rfl) ?_
      refine scases 21 rfl ?_ ?_
      · intro hb; subst hb; replace h1 := ct h1
        refine sk rfl rfl rfl ?_
        refine sk rfl rfl rfl ?_
        refine sk rfl rfl rfl ?_
        refine sk rfl rfl rfl ?_
        refine sk rfl rfl rfl ?_
        refine st rfl rfl rfl (yv_pick rfl rfl (fun _ => rfl) (fun _ => rfl) rfl) ?_
        refine st rfl rfl rfl (yv_move rfl rfl) ?_
        refine sk rfl rfl rfl ?_
        refine sk rfl rfl rfl ?_
        refine sk rfl rfl rfl ?_
        refine sk rfl rfl rfl ?_
        refine st rfl rfl rfl (yv_pick rfl rfl (fun _ => rfl) (fun _ => rfl) rfl) ?_
        obtain rfl := nxt_e h1
        refine rg_nil (hK _ ⟨true, (), rfl, leH_kn ⟨⟨_, rfl, (.refl _)⟩, ⟨_, rfl, (.refl _)⟩, ⟨_, rfl, (.refl _)⟩, ⟨_, rfl, (.refl _)⟩, trivial⟩ ⟨⟨_, rfl, (.refl _)⟩, ⟨_, rfl, (.refl _)⟩, trivial⟩⟩)
      · intro hb; subst hb; replace h1 := cf h1
        refine st rfl rfl rfl (yv_fieldAddr rfl fo53_5 rfl (.pt rfl rfl rfl) (.pt _ _ _ _ _)) ?_
        refine st rfl rfl rfl (yv_load rfl sh3 rfl (.pt rfl rfl rfl) rfl) ?_
        refine st rfl rfl rfl (yv_fieldAddr rfl fo53_5 rfl (.pt rfl rfl rfl) (.pt _ _ _ _ _)) ?_
        refine st rfl rfl rfl (yv_load rfl sh3 rfl (.pt rfl rfl rfl) rfl) ?_
        obtain ⟨x9, e9, h1⟩ := bnd_e h1
        refine st rfl rfl rfl (yv_to (y := boo x9) (yv_neq rfl rfl rfl) (congrArg boo e9)) ?_
        refine st rfl rfl rfl (yv_pick rfl rfl (fun _ => rfl) (fun _ => rfl) rfl) ?_
        refine st rfl rfl rfl (yv_move rfl rfl) ?_
        refine scases 28 rfl ?_ ?_
        · intro hb; subst hb; replace h1 := ct h1
          refine sk rfl rfl rfl ?_
          refine sk rfl rfl rfl ?_
          refine sk rfl rfl rfl ?_
          refine sk rfl rfl rfl ?_
          refine st rfl rfl rfl (yv_pick rfl rfl (fun _ => rfl) (fun _ => rfl) rfl) ?_
          obtain rfl := nxt_e h1
          refine rg_nil (hK _ ⟨true, (), rfl, leH_kn ⟨⟨_, rfl, (.refl _)⟩, ⟨_, rfl, (.refl _)⟩, ⟨_, rfl, (.refl _)⟩, ⟨_, rfl, (.refl _)⟩, trivial⟩ ⟨⟨_, rfl, (.refl _)⟩, ⟨_, rfl, (.refl _)⟩, trivial⟩⟩)
        · intro hb; subst hb; replace h1 := cf h1
          refine st rfl rfl rfl (yv_load rfl sh53 rfl (.pt rfl rfl rfl) rfl) ?_
          refine st rfl rfl rfl (yv_load rfl sh53 rfl (.pt rfl rfl rfl) rfl) ?_
          obtain ⟨x10, e10, h1⟩ := bind_e h1
          refine st rfl rfl rfl (yv_callP rfl rfl (.cons rfl (.cons rfl .nil)) cal61 (CvL.refl _) (d_ref14_samePapers_c e10)) ?_
          obtain ⟨x11, e11, h1⟩ := bnd_e h1
          refine st rfl rfl rfl (yv_not rfl rfl e11) ?_
          refine st rfl rfl rfl (yv_pick rfl rfl (fun _ => rfl) (fun _ => rfl) rfl) ?_
          obtain rfl := nxt_e h1
          refine rg_nil (hK _ ⟨x11, (), rfl, leH_kn ⟨⟨_, rfl, (.refl _)⟩, ⟨_, rfl, (.refl _)⟩, ⟨_, rfl, (.refl _)⟩, ⟨_, rfl, (.refl _)⟩, trivial⟩ ⟨⟨_, rfl, (.refl _)⟩, ⟨_, rfl, (.refl _)⟩, trivial⟩⟩)
  · rintro y0_1 _ rfl
    refine c_show ⟨kn [(2, .pt 1 v3 0 0), (3, .pt 2 v4 0 0), (4, boo false), (33, boo y0_1)], hk [(1, ⟨53, 10, true, true, v3, [[int a1.Master.Entities, int a1.Master.Periods, lst 1 fI a1.Master.Weights, lst 1 (fL 1 fI) a1.Master.Methods, lst 1 (fL 1 fI) a1.Master.Costs, lst 8 GEnt.av a1.Ents, lst 8 GReceipt.av a1.Receipts, lst 9 GSale.av a1.Sales, lst 6 GTransit.av a1.Transits, int a1.Done]]⟩), (2, ⟨53, 10, true, true, v4, [[int a2.Master.Entities, int a2.Master.Periods, lst 1 fI a2.Master.Weights, lst 1 (fL 1 fI) a2.Master.Methods, lst 1 (fL 1 fI) a2.Master.Costs, lst 8 GEnt.av a2.Ents, lst 8 GReceipt.av a2.Receipts, lst 9 GSale.av a2.Sales, lst 6 GTransit.av a2.Transits, int a2.Done]]⟩)]⟩ ?_
    refine c_if (b := y0_1) rfl ?_ ?_
    · intro hb; subst hb; replace h0 := ct h0
      refine c_seq ?_
      refine c_reg ?_; intro K hK
      refine st rfl rfl rfl (yv_assign rfl rfl) ?_
      refine rg_nil (hK _ ?_)
      obtain rfl := nxt_e h0
      refine c_ret (hret _ _ _ (.tmp rfl .nil) (fun _ _ h => h) ?_)
      exact .refl _
    · intro hb; subst hb; replace h0 := cf h0
      refine c_skip ?_
      refine c_seq ?_
      refine c_seq ?_
      refine c_reg ?_; intro K hK
      refine st rfl rfl rfl (yv_assign rfl rfl) ?_
      refine rg_nil (hK _ ?_)
      obtain ⟨j12, h1, h0⟩ := bind_e h0
      refine c_joinL (fun (a : Unit) (k : Unit) => ⟨kn [(4, boo false)], hk []⟩) (fun a => j12 = .inl a) ?_ ?_
      · intro Q1 jn1 jx1 jr1
        refine c_block ?_; intro Q2 bn2 bx2 br2 bo2
        refine c_loopD (fun (a : Int) (k : Unit) => ⟨kn [(2, .pt 1 v3 0 0), (3, .pt 2 v4 0 0), (4, boo false), (5, int a)], hk [(1, ⟨53, 10, true, true, v3, [[int a1.Master.Entities, int a1.Master.Periods, lst 1 fI a1.Master.Weights, lst 1 (fL 1 fI) a1.Master.Methods, lst 1 (fL 1 fI) a1.Master.Costs, lst 8 GEnt.av a1.Ents, lst 8 GReceipt.av a1.Receipts, lst 9 GSale.av a1.Sales, lst 6 GTransit.av a1.Transits, int a1.Done]]⟩), (2, ⟨53, 10, true, true, v4, [[int a2.Master.Entities, int a2.Master.Periods, lst 1 fI a2.Master.Weights, lst 1 (fL 1 fI) a2.Master.Methods, lst 1 (fL 1 fI) a2.Master.Costs, lst 8 GEnt.av a2.Ents, lst 8 GReceipt.av a2.Receipts, lst 9 GSale.av a2.Sales, lst 6 GTransit.av a2.Transits, int a2.Done]]⟩)]⟩) (fun n (a : Int) => d_ref14_Same_L0 a1 a2 n a) (0 : Int) () h1 (fun _ => rfl)
          (leH_kn ⟨⟨_, rfl, (.refl _)⟩, ⟨_, rfl, (.refl _)⟩, ⟨_, rfl, (.refl _)⟩, ⟨_, rfl, (.refl _)⟩, trivial⟩ ⟨⟨_, rfl, (.refl _)⟩, ⟨_, rfl, (.refl _)⟩, trivial⟩) ?_
        rintro n y1_1 _ hm h1 Q3 ln3 lx3 lr3
        replace h1 : d_ref14_Same_L0 a1 a2 (n + 1) y1_1 = some _ := h1
        rw [d_ref14_Same_L0] at h1
        refine c_show ⟨kn [(2, .pt 1 v3 0 0), (3, .pt 2 v4 0 0), (4, boo false), (5, int y1_1)], hk [(1, ⟨53, 10, true, true, v3, [[int a1.Master.Entities, int a1.Master.Periods, lst 1 fI a1.Master.Weights, lst 1 (fL 1 fI) a1.Master.Methods, lst 1 (fL 1 fI) a1.Master.Costs, lst 8 GEnt.av a1.Ents, lst 8 GReceipt.av a1.Receipts, lst 9 GSale.av a1.Sales, lst 6 GTransit.av a1.Transits, int a1.Done]]⟩), (2, ⟨53, 10, true, true, v4, [[int a2.Master.Entities, int a2.Master.Periods, lst 1 fI a2.Master.Weights, lst 1 (fL 1 fI) a2.Master.Methods, lst 1 (fL 1 fI) a2.Master.Costs, lst 8 GEnt.av a2.Ents, lst 8 GReceipt.av a2.Receipts, lst 9 GSale.av a2.Sales, lst 6 GTransit.av a2.Transits, int a2.Done]]⟩)]⟩ ?_
        refine c_seq ?_
        refine c_seq ?_
        refine c_reg ?_; intro K hK
        refine st rfl rfl rfl (yv_move rfl rfl) ?_
        refine st rfl rfl rfl (yv_fieldAddr rfl fo53_1 rfl (.pt rfl rfl rfl) (.pt _ _ _ _ _)) ?_
        refine st rfl rfl rfl (yv_load rfl sh48 rfl (.pt rfl rfl rfl) rfl) ?_
        refine st rfl rfl rfl (yv_len_sl rfl Try.underlying48 rfl (lst_len _)) ?_
        obtain ⟨x13, e13, h1⟩ := bnd_e h1
        refine st rfl rfl rfl (yv_to (y := boo x13) (yv_lss rfl rfl rfl) (congrArg boo e13)) ?_
        refine rg_nil (hK _ ?_)
        refine c_if (b := x13) rfl ?_ ?_
        · intro hb; subst hb; replace h1 := ct h1
          refine c_skip ?_
          refine c_seq ?_
          refine c_block ?_; intro Q4 bn4 bx4 br4 bo4
          refine c_seq ?_
          refine c_drawE [0, 1, 0, 7, 15, 0, 32, 0, 224, 480, 1023, 2047] (fun i => bif Nat.beq i 0 then ([1]) else bif Nat.beq i 1 then ([1]) else bif Nat.beq i 5 then ([2]) else bif Nat.beq i 6 then ([2]) else []) (fun i => [1, 2]) (fun i => true) [0, 1, 2, 3, 4, 5, 6, 7, 8, 9, 10, 11] mixed (by kernel_rfl) ?_; intro K hK
          refine de_pure rfl rfl rfl rfl (fun H hH => yv_fieldAddr rfl fo53_1 rfl (.pt ((hH _ (by decide)).trans rfl) rfl rfl) (.pt _ _ _ _ _)) ?_
          refine de_pure rfl rfl rfl rfl (fun H hH => yv_load rfl sh48 rfl (.pt ((hH _ (by decide)).trans rfl) rfl rfl) rfl) ?_
          refine de_pure rfl rfl rfl rfl (fun H hH => yv_move rfl rfl) ?_
          obtain ⟨x14, e14, h1⟩ := bind_e h1
          refine de_pure rfl rfl rfl rfl (fun H hH => yv_to (y := .pp [int x14.Now, boo x14.Closed, lst 4 GPool.av x14.Pools, lst 1 fI x14.Bal, lst 11 GRoll.av x14.Rolls, lst 1 fI x14.Prices, lst 1 fI x14.Down, lst 8 GEnt.av x14.Ahead]) (yv_ixT rfl Try.underlying48 sh66 rfl rfl e14) (congrArg AV.pp (GEnt.av_eq x14))) ?_
          refine de_pure rfl rfl rfl rfl (fun H hH => yv_load rfl sh66 rfl (.pp _) rfl) ?_
          refine de_pure rfl rfl rfl rfl (fun H hH => yv_fieldAddr rfl fo53_1 rfl (.pt ((hH _ (by decide)).trans rfl) rfl rfl) (.pt _ _ _ _ _)) ?_
          refine de_pure rfl rfl rfl rfl (fun H hH => yv_load rfl sh48 rfl (.pt ((hH _ (by decide)).trans rfl) rfl rfl) rfl) ?_
          refine de_pure rfl rfl rfl rfl (fun H hH => yv_move rfl rfl) ?_
          obtain ⟨x15, e15, h1⟩ := bind_e h1
          refine de_pure rfl rfl rfl rfl (fun H hH => yv_to (y := .pp [int x15.Now, boo x15.Closed, lst 4 GPool.av x15.Pools, lst 1 fI x15.Bal, lst 11 GRoll.av x15.Rolls, lst 1 fI x15.Prices, lst 1 fI x15.Down, lst 8 GEnt.av x15.Ahead]) (yv_ixT rfl Try.underlying48 sh66 rfl rfl e15) (congrArg AV.pp (GEnt.av_eq x15))) ?_
          refine de_pure rfl rfl rfl rfl (fun H hH => yv_load rfl sh66 rfl (.pp _) rfl) ?_
          obtain ⟨x16, e16, h1⟩ := bind_e h1
          refine de_pure rfl rfl rfl rfl (fun H hH => yv_callP rfl rfl (.cons rfl (.cons rfl .nil)) cal62 (CvL.refl _) (d_ref14_sameEnt_c e16)) ?_
          obtain ⟨x17, e17, h1⟩ := bnd_e h1
          refine de_pure rfl rfl rfl rfl (fun H hH => yv_not rfl rfl e17) ?_
          refine de_nil (hK _ ?_)
          refine c_if (b := x17) rfl ?_ ?_
          · intro hb; subst hb; replace h1 := ct h1
            refine c_seq ?_
            refine c_reg ?_; intro K hK
            refine st rfl rfl rfl (yv_assign rfl rfl) ?_
            refine rg_nil (hK _ ?_)
            obtain ⟨c18, hX, hj⟩ := esc_e h1; subst hj; replace h0 := hX.trans (sel_r h0)
            obtain rfl := nxt_e h0
            refine c_ret (br4 _ (lr3 _ (br2 _ (jr1 _ (hret _ _ _ (.tmp rfl .nil) (fun _ _ h => h) ?_)))))
            exact .refl _
          · intro hb; subst hb; replace h1 := cf h1
            refine c_skip ?_
            refine c_nil (bn4 _ ?_)
            refine c_reg ?_; intro K hK
            refine st rfl rfl rfl (yv_move rfl rfl) ?_
            obtain ⟨x19, e19, h1⟩ := bnd_e h1
            refine st rfl rfl rfl (yv_add rfl rfl rfl e19) ?_
            refine st rfl rfl rfl (yv_assign rfl rfl) ?_
            refine rg_nil (hK _ ?_)
            refine c_nil (ln3 _ ⟨x19, (), h1, leH_kn ⟨⟨_, rfl, (.refl _)⟩, ⟨_, rfl, (.refl _)⟩, ⟨_, rfl, (.refl _)⟩, ⟨_, rfl, (.refl _)⟩, trivial⟩ ⟨⟨_, rfl, (.refl _)⟩, ⟨_, rfl, (.refl _)⟩, trivial⟩⟩)
        · intro hb; subst hb; replace h1 := cf h1
          refine c_exit (lx3 _ _ (bx2 _ ?_))
          obtain rfl := brk_e h1
          refine c_nil (jn1 _ ⟨(), (), rfl, leH_kn ⟨⟨_, rfl, (.refl _)⟩, trivial⟩ trivial⟩)
      · rintro _ _ rfl
        replace h0 := sel_l h0
        refine c_show ⟨kn [(4, boo false)], hk []⟩ ?_
        refine c_seq ?_
        refine c_reg ?_; intro K hK
        refine st rfl rfl rfl (yv_assign rfl rfl) ?_
        refine rg_nil (hK _ ?_)
        obtain rfl := nxt_e h0
        refine c_ret (hret _ _ _ (.tmp rfl .nil) (fun _ _ h => h) ?_)
        exact .refl _
def d_law04_MasterAll (n : Nat) (a1 : GMaster) (a2 : GMaster) (a3 : List UInt8) : Option (Bool) :=
(show Option (Bool) from
(d_law00_FewMaster n a1).bind fun (x7 : Bool) =>
bnd (!x7) fun (x8 : Bool) =>
cond x8 (some (true : Bool)) ((d_law00_FewMaster n a2).bind fun (x9 : Bool) =>
bnd (!x9) fun (x10 : Bool) =>
cond x10 (some (true : Bool)) (bnd (decide ((a3.length : Int) > 1000)) fun (x11 : Bool) =>
some (x11 : Bool)))).bind <| fun (y0_1 : Bool) =>
cond y0_1 ((d_law04_awake n).bind fun (x12 : Bool) =>
some ((x12 : Bool))) ((d_master_Read n a3).bind fun (x13 : GMaster × Int) =>
(d_ref04_Read n a3).bind fun (x15 : GMaster × Int) =>
(d_master_Start n a1).bind fun (x17 : GState × Int) =>
(d_ref04_Start n a1).bind fun (x19 : GState × Int) =>
(show Option (Bool) from
(d_master_Check n a1).bind fun (x22 : Bool) =>
(d_ref04_Check n a1).bind fun (x23 : Bool) =>
bnd (decide (x22 = x23)) fun (x24 : Bool) =>
cond x24 ((d_master_Same n a1 a2).bind fun (x25 : Bool) =>
(d_ref04_Same n a1 a2).bind fun (x26 : Bool) =>
bnd (decide (x25 = x26)) fun (x27 : Bool) =>
cond x27 ((d_master_Bytes n a1).bind fun (x28 : (List UInt8)) =>
(d_ref04_Bytes n a1).bind fun (x29 : (List UInt8)) =>
bnd (decide (x28 = x29)) fun (x30 : Bool) =>
cond x30 ((d_ref04_Same n x13.1 x15.1).bind fun (x31 : Bool) =>
cond x31 (bnd (decide (x13.2 = x15.2)) fun (x32 : Bool) =>
cond x32 ((d_ref14_Same n x17.1 x19.1).bind fun (x33 : Bool) =>
cond x33 (bnd (decide (x17.2 = x19.2)) fun (x34 : Bool) =>
cond x34 ((d_law04_awake n).bind fun (x35 : Bool) =>
some (x35 : Bool)) (some (false : Bool))) (some (false : Bool))) (some (false : Bool))) (some (false : Bool))) (some (false : Bool))) (some (false : Bool))) (some (false : Bool))).bind <| fun (y1_1 : Bool) =>
some ((y1_1 : Bool)))
theorem d_law04_MasterAll_c {n : Nat} {a1 : GMaster} {a2 : GMaster} {a3 : List UInt8} {r : Bool} (h0 : d_law04_MasterAll n a1 a2 a3 = some r) : PP Try.prog 6 [.agg (GMaster.av a1), .agg (GMaster.av a2), str a3] (fun y => y = boo r) := by
  unfold d_law04_MasterAll at h0
  refine pp_of_pc (R0 := fun y H => Cv (frzH H) y (boo r)) ?_ (fun y H hc => ⟨_, rfl, pvB r, hc⟩)
  refine pc_of' (c := _) Try.func6 rfl rfl ?_; intro Q hret hnorm
  refine c_seq ?_
  refine c_reg ?_; intro K hK
  refine se rfl rfl rfl (yl_box 1 .any rfl rfl rfl) ?_; rintro _ _ ⟨v4, -, rfl, rfl⟩
  refine se rfl rfl rfl (yl_box 2 .any rfl rfl rfl) ?_; rintro _ _ ⟨v5, -, rfl, rfl⟩
  refine st rfl rfl rfl (yv_assign rfl rfl) ?_
  refine rg_nil (hK _ ?_)
  refine c_seq ?_
  refine c_seq ?_
  obtain ⟨j6, h1, h0⟩ := bind_e h0
  refine c_regL (fun (a : Bool) (k : Unit) => ⟨kn [(2, str a3), (3, .pt 1 v4 0 0), (4, .pt 2 v5 0 0), (6, boo false), (27, boo a)], hk [(1, ⟨43, 5, true, true, v4, [[int a1.Entities, int a1.Periods, lst 1 fI a1.Weights, lst 1 (fL 1 fI) a1.Methods, lst 1 (fL 1 fI) a1.Costs]]⟩), (2, ⟨43, 5, true, true, v5, [[int a2.Entities, int a2.Periods, lst 1 fI a2.Weights, lst 1 (fL 1 fI) a2.Methods, lst 1 (fL 1 fI) a2.Costs]]⟩)]⟩) (fun a => a = j6) ?_ ?_
  · intro K hK
    refine st rfl rfl rfl (yv_load rfl sh43 rfl (.pt rfl rfl rfl) rfl) ?_
    obtain ⟨x7, e7, h1⟩ := bind_e h1
    refine st rfl rfl rfl (yv_callP rfl rfl (.cons rfl .nil) cal24 (CvL.refl _) (d_law00_FewMaster_c e7)) ?_
    obtain ⟨x8, e8, h1⟩ := bnd_e h1
    refine st rfl rfl rfl (yv_not rfl rfl e8) ?_
    refine st rfl rfl rfl (yv_move rfl rfl) ?_
    refine scases 18 rfl ?_ ?_
    · intro hb; subst hb; replace h1 := ct h1
      refine sk rfl rfl rfl ?_
      refine sk rfl rfl rfl ?_
      refine sk rfl rfl rfl ?_
      refine st rfl rfl rfl (yv_pick rfl rfl (fun _ => rfl) (fun _ => rfl) rfl) ?_
      refine st rfl rfl rfl (yv_move rfl rfl) ?_
      refine sk rfl rfl rfl ?_
      refine sk rfl rfl rfl ?_
      refine sk rfl rfl rfl ?_
      refine st rfl rfl rfl (yv_pick rfl rfl (fun _ => rfl) (fun _ => rfl) rfl) ?_
      obtain rfl := nxt_e h1
      refine rg_nil (hK _ ⟨true, (), rfl, leH_kn ⟨⟨_, rfl, (.refl _)⟩, ⟨_, rfl, (.refl _)⟩, ⟨_, rfl, (.refl _)⟩, ⟨_, rfl, (.refl _)⟩, ⟨_, rfl, (.refl _)⟩, trivial⟩ ⟨⟨_, rfl, (.refl _)⟩, ⟨_, rfl, (.refl _)⟩, trivial⟩⟩)
    · intro hb; subst hb; replace h1 := cf h1
      refine st rfl rfl rfl (yv_load rfl sh43 rfl (.pt rfl rfl rfl) rfl) ?_
      obtain ⟨x9, e9, h1⟩ := bind_e h1
      refine st rfl rfl rfl (yv_callP rfl rfl (.cons rfl .nil) cal24 (CvL.refl _) (d_law00_FewMaster_c e9)) ?_
      obtain ⟨x10, e10, h1⟩ := bnd_e h1
      refine st rfl rfl rfl (yv_not rfl rfl e10) ?_
      refine st rfl rfl rfl (yv_pick rfl rfl (fun _ => rfl) (fun _ => rfl) rfl) ?_
      refine st rfl rfl rfl (yv_move rfl rfl) ?_
      refine scases 23 rfl ?_ ?_
      · intro hb; subst hb; replace h1 := ct h1
        refine sk rfl rfl rfl ?_
        refine sk rfl rfl rfl ?_
        refine sk rfl rfl rfl ?_
        refine st rfl rfl rfl (yv_pick rfl rfl (fun _ => rfl) (fun _ => rfl) rfl) ?_
        obtain rfl := nxt_e h1
        refine rg_nil (hK _ ⟨true, (), rfl, leH_kn ⟨⟨_, rfl, (.refl _)⟩, ⟨_, rfl, (.refl _)⟩, ⟨_, rfl, (.refl _)⟩, ⟨_, rfl, (.refl _)⟩, ⟨_, rfl, (.refl _)⟩, trivial⟩ ⟨⟨_, rfl, (.refl _)⟩, ⟨_, rfl, (.refl _)⟩, trivial⟩⟩)
      · intro hb; subst hb; replace h1 := cf h1
        refine st rfl rfl rfl (yv_move rfl rfl) ?_
        refine st rfl rfl rfl (yv_len_str rfl Try.underlying9 rfl) ?_
        obtain ⟨x11, e11, h1⟩ := bnd_e h1
        refine st rfl rfl rfl (yv_to (y := boo x11) (yv_gtr rfl rfl rfl) (congrArg boo e11)) ?_
        refine st rfl rfl rfl (yv_pick rfl rfl (fun _ => rfl) (fun _ => rfl) rfl) ?_
        obtain rfl := nxt_e h1
        refine rg_nil (hK _ ⟨x11, (), rfl, leH_kn ⟨⟨_, rfl, (.refl _)⟩, ⟨_, rfl, (.refl _)⟩, ⟨_, rfl, (.refl _)⟩, ⟨_, rfl, (.refl _)⟩, ⟨_, rfl, (.refl _)⟩, trivial⟩ ⟨⟨_, rfl, (.refl _)⟩, ⟨_, rfl, (.refl _)⟩, trivial⟩⟩)
  · rintro y0_1 _ rfl
    refine c_show ⟨kn [(2, str a3), (3, .pt 1 v4 0 0), (4, .pt 2 v5 0 0), (6, boo false), (27, boo y0_1)], hk [(1, ⟨43, 5, true, true, v4, [[int a1.Entities, int a1.Periods, lst 1 fI a1.Weights, lst 1 (fL 1 fI) a1.Methods, lst 1 (fL 1 fI) a1.Costs]]⟩), (2, ⟨43, 5, true, true, v5, [[int a2.Entities, int a2.Periods, lst 1 fI a2.Weights, lst 1 (fL 1 fI) a2.Methods, lst 1 (fL 1 fI) a2.Costs]]⟩)]⟩ ?_
    refine c_if (b := y0_1) rfl ?_ ?_
    · intro hb; subst hb; replace h0 := ct h0
      refine c_seq ?_
      refine c_reg ?_; intro K hK
      obtain ⟨x12, e12, h0⟩ := bind_e h0
      refine st rfl rfl rfl (yv_callP rfl rfl .nil cal25 (CvL.refl _) (d_law04_awake_c e12)) ?_
      refine st rfl rfl rfl (yv_assign rfl rfl) ?_
      refine rg_nil (hK _ ?_)
      obtain rfl := nxt_e h0
      refine c_ret (hret _ _ _ (.tmp rfl .nil) (fun _ _ h => h) ?_)
      exact .refl _
    · intro hb; subst hb; replace h0 := cf h0
      refine c_skip ?_
      refine c_seq ?_
      refine c_reg ?_; intro K hK
      refine st rfl rfl rfl (yv_move rfl rfl) ?_
      obtain ⟨x13, e13, h0⟩ := bind_e h0
      refine st rfl rfl rfl (yv_callP rfl rfl (.cons rfl .nil) cal26 (CvL.refl _) (d_master_Read_c e13)) ?_
      refine st rfl rfl rfl (yv_move rfl rfl) ?_
      refine st rfl rfl rfl (yv_extract rfl rfl rfl) ?_
      refine st rfl rfl rfl (yv_extract rfl rfl rfl) ?_
      refine se rfl rfl rfl (yl_alloc 3 .any rfl z43 rfl) ?_; rintro _ _ ⟨v14, -, rfl, rfl⟩
      refine sstore rfl rfl (yl_ob (ob' := (⟨43, 5, true, true, v14, [[int x13.1.Entities, int x13.1.Periods, lst 1 fI x13.1.Weights, lst 1 (fL 1 fI) x13.1.Methods, lst 1 (fL 1 fI) x13.1.Costs]]⟩ : AObj)) (yl_store rfl sh43 rfl rfl rfl rfl rfl rfl rfl rfl rfl) rfl) ?_
      refine st rfl rfl rfl (yv_assign rfl rfl) ?_
      refine rg_nil (hK _ ?_)
      refine c_seq ?_
      refine c_reg ?_; intro K hK
      refine st rfl rfl rfl (yv_move rfl rfl) ?_
      obtain ⟨x15, e15, h0⟩ := bind_e h0
      refine st rfl rfl rfl (yv_callP rfl rfl (.cons rfl .nil) cal27 (CvL.refl _) (d_ref04_Read_c e15)) ?_
      refine st rfl rfl rfl (yv_move rfl rfl) ?_
      refine st rfl rfl rfl (yv_extract rfl rfl rfl) ?_
      refine st rfl rfl rfl (yv_extract rfl rfl rfl) ?_
      refine se rfl rfl rfl (yl_alloc 4 .any rfl z43 rfl) ?_; rintro _ _ ⟨v16, -, rfl, rfl⟩
      refine sstore rfl rfl (yl_ob (ob' := (⟨43, 5, true, true, v16, [[int x15.1.Entities, int x15.1.Periods, lst 1 fI x15.1.Weights, lst 1 (fL 1 fI) x15.1.Methods, lst 1 (fL 1 fI) x15.1.Costs]]⟩ : AObj)) (yl_store rfl sh43 rfl rfl rfl rfl rfl rfl rfl rfl rfl) rfl) ?_
      refine st rfl rfl rfl (yv_assign rfl rfl) ?_
      refine rg_nil (hK _ ?_)
      refine c_seq ?_
      refine c_reg ?_; intro K hK
      refine st rfl rfl rfl (yv_load rfl sh43 rfl (.pt rfl rfl rfl) rfl) ?_
      obtain ⟨x17, e17, h0⟩ := bind_e h0
      refine st rfl rfl rfl (yv_callP rfl rfl (.cons rfl .nil) cal28 (CvL.refl _) (d_master_Start_c e17)) ?_
      refine st rfl rfl rfl (yv_move rfl rfl) ?_
      refine st rfl rfl rfl (yv_extract rfl rfl rfl) ?_
      refine st rfl rfl rfl (yv_extract rfl rfl rfl) ?_
      refine se rfl rfl rfl (yl_alloc 5 .any rfl z53 rfl) ?_; rintro _ _ ⟨v18, -, rfl, rfl⟩
      refine sstore rfl rfl (yl_ob (ob' := (⟨53, 10, true, true, v18, [[int x17.1.Master.Entities, int x17.1.Master.Periods, lst 1 fI x17.1.Master.Weights, lst 1 (fL 1 fI) x17.1.Master.Methods, lst 1 (fL 1 fI) x17.1.Master.Costs, lst 8 GEnt.av x17.1.Ents, lst 8 GReceipt.av x17.1.Receipts, lst 9 GSale.av x17.1.Sales, lst 6 GTransit.av x17.1.Transits, int x17.1.Done]]⟩ : AObj)) (yl_store rfl sh53 rfl rfl rfl rfl rfl rfl rfl rfl rfl) rfl) ?_
      refine st rfl rfl rfl (yv_assign rfl rfl) ?_
      refine rg_nil (hK _ ?_)
      refine c_seq ?_
      refine c_reg ?_; intro K hK
      refine st rfl rfl rfl (yv_load rfl sh43 rfl (.pt rfl rfl rfl) rfl) ?_
      obtain ⟨x19, e19, h0⟩ := bind_e h0
      refine st rfl rfl rfl (yv_callP rfl rfl (.cons rfl .nil) cal29 (CvL.refl _) (d_ref04_Start_c e19)) ?_
      refine st rfl rfl rfl (yv_move rfl rfl) ?_
      refine st rfl rfl rfl (yv_extract rfl rfl rfl) ?_
      refine st rfl rfl rfl (yv_extract rfl rfl rfl) ?_
      refine se rfl rfl rfl (yl_alloc 6 .any rfl z53 rfl) ?_; rintro _ _ ⟨v20, -, rfl, rfl⟩
      refine sstore rfl rfl (yl_ob (ob' := (⟨53, 10, true, true, v20, [[int x19.1.Master.Entities, int x19.1.Master.Periods, lst 1 fI x19.1.Master.Weights, lst 1 (fL 1 fI) x19.1.Master.Methods, lst 1 (fL 1 fI) x19.1.Master.Costs, lst 8 GEnt.av x19.1.Ents, lst 8 GReceipt.av x19.1.Receipts, lst 9 GSale.av x19.1.Sales, lst 6 GTransit.av x19.1.Transits, int x19.1.Done]]⟩ : AObj)) (yl_store rfl sh53 rfl rfl rfl rfl rfl rfl rfl rfl rfl) rfl) ?_
      refine st rfl rfl rfl (yv_assign rfl rfl) ?_
      refine rg_nil (hK _ ?_)
      refine c_seq ?_
      obtain ⟨j21, h1, h0⟩ := bind_e h0
      refine c_drawEL [0, 1, 0, 7, 15, 31, 63, 63, 255, 63, 63, 2047, 4095, 8191, 16383, 32767, 65535, 32767, 262143, 524287, 1048575, 2097151, 4194303, 4194303, 16777215, 33554431, 67108863, 134217727, 134217727, 536870911, 1073741823, 2147483647, 4294967295, 4294967295, 17179869183, 34359738367, 68719476735, 137438953471, 137438953471, 549755813887, 1099511627775, 2199023255551, 4398046511103, 8796093022207, 17592186044415] (fun i => bif Nat.beq i 0 then ([1]) else bif Nat.beq i 2 then ([1]) else bif Nat.beq i 6 then ([1]) else bif Nat.beq i 7 then ([2]) else bif Nat.beq i 9 then ([1]) else bif Nat.beq i 10 then ([2]) else bif Nat.beq i 15 then ([1]) else bif Nat.beq i 17 then ([1]) else bif Nat.beq i 22 then ([3]) else bif Nat.beq i 23 then ([4]) else bif Nat.beq i 32 then ([5]) else bif Nat.beq i 33 then ([6]) else []) (fun i => [1, 2, 3, 4, 5, 6]) (fun i => true) [0, 1, 2, 3, 4, 5, 6, 7, 8, 9, 10, 11, 12, 13, 14, 15, 16, 17, 18, 19, 20, 21, 22, 23, 24, 25, 26, 27, 28, 29, 30, 31, 32, 33, 34, 35, 36, 37, 38, 39, 40, 41, 42, 43, 44] (fun (a : Bool) (k : Unit) => ⟨kn [(6, boo a)], hk []⟩) (fun a => a = j21) mixed (by kernel_rfl) ?_ ?_
      · intro K hK
        refine de_pure rfl rfl rfl rfl (fun H hH => yv_load rfl sh43 rfl (.pt ((hH _ (by decide)).trans rfl) rfl rfl) rfl) ?_
        obtain ⟨x22, e22, h1⟩ := bind_e h1
        refine de_pure rfl rfl rfl rfl (fun H hH => yv_callP rfl rfl (.cons rfl .nil) cal30 (CvL.refl _) (d_master_Check_c e22)) ?_
        refine de_pure rfl rfl rfl rfl (fun H hH => yv_load rfl sh43 rfl (.pt ((hH _ (by decide)).trans rfl) rfl rfl) rfl) ?_
        obtain ⟨x23, e23, h1⟩ := bind_e h1
        refine de_pure rfl rfl rfl rfl (fun H hH => yv_callP rfl rfl (.cons rfl .nil) cal31 (CvL.refl _) (d_ref04_Check_c e23)) ?_
        obtain ⟨x24, e24, h1⟩ := bnd_e h1
        refine de_pure rfl rfl rfl rfl (fun H hH => yv_to (y := boo x24) (yv_beql rfl Try.underlying4 rfl rfl) (congrArg boo e24)) ?_
        refine de_pure rfl rfl rfl rfl (fun H hH => yv_move rfl rfl) ?_
        refine de_cases (b := x24) 54 rfl ?_ ?_
        · intro hb; subst hb; replace h1 := ct h1
          refine de_pure rfl rfl rfl rfl (fun H hH => yv_load rfl sh43 rfl (.pt ((hH _ (by decide)).trans rfl) rfl rfl) rfl) ?_
          refine de_pure rfl rfl rfl rfl (fun H hH => yv_load rfl sh43 rfl (.pt ((hH _ (by decide)).trans rfl) rfl rfl) rfl) ?_
          obtain ⟨x25, e25, h1⟩ := bind_e h1
          refine de_pure rfl rfl rfl rfl (fun H hH => yv_callP rfl rfl (.cons rfl (.cons rfl .nil)) cal32 (CvL.refl _) (d_master_Same_c e25)) ?_
          refine de_pure rfl rfl rfl rfl (fun H hH => yv_load rfl sh43 rfl (.pt ((hH _ (by decide)).trans rfl) rfl rfl) rfl) ?_
          refine de_pure rfl rfl rfl rfl (fun H hH => yv_load rfl sh43 rfl (.pt ((hH _ (by decide)).trans rfl) rfl rfl) rfl) ?_
          obtain ⟨x26, e26, h1⟩ := bind_e h1
          refine de_pure rfl rfl rfl rfl (fun H hH => yv_callP rfl rfl (.cons rfl (.cons rfl .nil)) cal33 (CvL.refl _) (d_ref04_Same_c e26)) ?_
          obtain ⟨x27, e27, h1⟩ := bnd_e h1
          refine de_pure rfl rfl rfl rfl (fun H hH => yv_to (y := boo x27) (yv_beql rfl Try.underlying4 rfl rfl) (congrArg boo e27)) ?_
          refine de_pure rfl rfl rfl rfl (fun H hH => yv_pick rfl rfl (fun _ => rfl) (fun _ => rfl) rfl) ?_
          refine de_pure rfl rfl rfl rfl (fun H hH => yv_move rfl rfl) ?_
          refine de_cases (b := x27) 63 rfl ?_ ?_
          · intro hb; subst hb; replace h1 := ct h1
            refine de_pure rfl rfl rfl rfl (fun H hH => yv_load rfl sh43 rfl (.pt ((hH _ (by decide)).trans rfl) rfl rfl) rfl) ?_
            obtain ⟨x28, e28, h1⟩ := bind_e h1
            refine de_pure rfl rfl rfl rfl (fun H hH => yv_callP rfl rfl (.cons rfl .nil) cal34 (CvL.refl _) (d_master_Bytes_c e28)) ?_
            refine de_pure rfl rfl rfl rfl (fun H hH => yv_load rfl sh43 rfl (.pt ((hH _ (by decide)).trans rfl) rfl rfl) rfl) ?_
            obtain ⟨x29, e29, h1⟩ := bind_e h1
            refine de_pure rfl rfl rfl rfl (fun H hH => yv_callP rfl rfl (.cons rfl .nil) cal35 (CvL.refl _) (d_ref04_Bytes_c e29)) ?_
            obtain ⟨x30, e30, h1⟩ := bnd_e h1
            refine de_pure rfl rfl rfl rfl (fun H hH => yv_to (y := boo x30) (yv_seql rfl rfl rfl) (congrArg boo e30)) ?_
            refine de_pure rfl rfl rfl rfl (fun H hH => yv_pick rfl rfl (fun _ => rfl) (fun _ => rfl) rfl) ?_
            refine de_pure rfl rfl rfl rfl (fun H hH => yv_move rfl rfl) ?_
            refine de_cases (b := x30) 70 rfl ?_ ?_
            · intro hb; subst hb; replace h1 := ct h1
              refine de_pure rfl rfl rfl rfl (fun H hH => yv_load rfl sh43 rfl (.pt ((hH _ (by decide)).trans rfl) rfl rfl) rfl) ?_
              refine de_pure rfl rfl rfl rfl (fun H hH => yv_load rfl sh43 rfl (.pt ((hH _ (by decide)).trans rfl) rfl rfl) rfl) ?_
              obtain ⟨x31, e31, h1⟩ := bind_e h1
              refine de_pure rfl rfl rfl rfl (fun H hH => yv_callP rfl rfl (.cons rfl (.cons rfl .nil)) cal33 (CvL.refl _) (d_ref04_Same_c e31)) ?_
              refine de_pure rfl rfl rfl rfl (fun H hH => yv_pick rfl rfl (fun _ => rfl) (fun _ => rfl) rfl) ?_
              refine de_pure rfl rfl rfl rfl (fun H hH => yv_move rfl rfl) ?_
              refine de_cases (b := x31) 75 rfl ?_ ?_
              · intro hb; subst hb; replace h1 := ct h1
                refine de_pure rfl rfl rfl rfl (fun H hH => yv_move rfl rfl) ?_
                refine de_pure rfl rfl rfl rfl (fun H hH => yv_move rfl rfl) ?_
                obtain ⟨x32, e32, h1⟩ := bnd_e h1
                refine de_pure rfl rfl rfl rfl (fun H hH => yv_to (y := boo x32) (yv_eql rfl rfl rfl) (congrArg boo e32)) ?_
                refine de_pure rfl rfl rfl rfl (fun H hH => yv_pick rfl rfl (fun _ => rfl) (fun _ => rfl) rfl) ?_
                refine de_pure rfl rfl rfl rfl (fun H hH => yv_move rfl rfl) ?_
                refine de_cases (b := x32) 80 rfl ?_ ?_
                · intro hb; subst hb; replace h1 := ct h1
                  refine de_pure rfl rfl rfl rfl (fun H hH => yv_load rfl sh53 rfl (.pt ((hH _ (by decide)).trans rfl) rfl rfl) rfl) ?_
                  refine de_pure rfl rfl rfl rfl (fun H hH => yv_load rfl sh53 rfl (.pt ((hH _ (by decide)).trans rfl) rfl rfl) rfl) ?_
                  obtain ⟨x33, e33, h1⟩ := bind_e h1
                  refine de_pure rfl rfl rfl rfl (fun H hH => yv_callP rfl rfl (.cons rfl (.cons rfl .nil)) cal36 (CvL.refl _) (d_ref14_Same_c e33)) ?_
                  refine de_pure rfl rfl rfl rfl (fun H hH => yv_pick rfl rfl (fun _ => rfl) (fun _ => rfl) rfl) ?_
                  refine de_pure rfl rfl rfl rfl (fun H hH => yv_move rfl rfl) ?_
                  refine de_cases (b := x33) 85 rfl ?_ ?_
                  · intro hb; subst hb; replace h1 := ct h1
                    refine de_pure rfl rfl rfl rfl (fun H hH => yv_move rfl rfl) ?_
                    refine de_pure rfl rfl rfl rfl (fun H hH => yv_move rfl rfl) ?_
                    obtain ⟨x34, e34, h1⟩ := bnd_e h1
                    refine de_pure rfl rfl rfl rfl (fun H hH => yv_to (y := boo x34) (yv_eql rfl rfl rfl) (congrArg boo e34)) ?_
                    refine de_pure rfl rfl rfl rfl (fun H hH => yv_pick rfl rfl (fun _ => rfl) (fun _ => rfl) rfl) ?_
                    refine de_pure rfl rfl rfl rfl (fun H hH => yv_move rfl rfl) ?_
                    refine de_cases (b := x34) 90 rfl ?_ ?_
                    · intro hb; subst hb; replace h1 := ct h1
                      obtain ⟨x35, e35, h1⟩ := bind_e h1
                      refine de_pure rfl rfl rfl rfl (fun H hH => yv_callP rfl rfl .nil cal25 (CvL.refl _) (d_law04_awake_c e35)) ?_
                      refine de_pure rfl rfl rfl rfl (fun H hH => yv_pick rfl rfl (fun _ => rfl) (fun _ => rfl) rfl) ?_
                      refine de_pure rfl rfl rfl rfl (fun H hH => yv_assign rfl rfl) ?_
                      obtain rfl := nxt_e h1
                      refine de_nil (hK _ ⟨x35, (), rfl, leH_kn ⟨⟨_, rfl, (.refl _)⟩, trivial⟩ trivial⟩)
                    · intro hb; subst hb; replace h1 := cf h1
                      refine de_skip rfl rfl rfl ?_
                      refine de_pure rfl rfl rfl rfl (fun H hH => yv_pick rfl rfl (fun _ => rfl) (fun _ => rfl) rfl) ?_
                      refine de_pure rfl rfl rfl rfl (fun H hH => yv_assign rfl rfl) ?_
                      obtain rfl := nxt_e h1
                      refine de_nil (hK _ ⟨false, (), rfl, leH_kn ⟨⟨_, rfl, (.refl _)⟩, trivial⟩ trivial⟩)
                  · intro hb; subst hb; replace h1 := cf h1
                    refine de_skip rfl rfl rfl ?_
                    refine de_skip rfl rfl rfl ?_
                    refine de_skip rfl rfl rfl ?_
                    refine de_pure rfl rfl rfl rfl (fun H hH => yv_pick rfl rfl (fun _ => rfl) (fun _ => rfl) rfl) ?_
                    refine de_pure rfl rfl rfl rfl (fun H hH => yv_move rfl rfl) ?_
                    refine de_skip rfl rfl rfl ?_
                    refine de_pure rfl rfl rfl rfl (fun H hH => yv_pick rfl rfl (fun _ => rfl) (fun _ => rfl) rfl) ?_
                    refine de_pure rfl rfl rfl rfl (fun H hH => yv_assign rfl rfl) ?_
                    obtain rfl := nxt_e h1
                    refine de_nil (hK _ ⟨false, (), rfl, leH_kn ⟨⟨_, rfl, (.refl _)⟩, trivial⟩ trivial⟩)
                · intro hb; subst hb; replace h1 := cf h1
                  refine de_skip rfl rfl rfl ?_
                  refine de_skip rfl rfl rfl ?_
                  refine de_skip rfl rfl rfl ?_
                  refine de_pure rfl rfl rfl rfl (fun H hH => yv_pick rfl rfl (fun _ => rfl) (fun _ => rfl) rfl) ?_
                  refine de_pure rfl rfl rfl rfl (fun H hH => yv_move rfl rfl) ?_
                  refine de_skip rfl rfl rfl ?_
                  refine de_skip rfl rfl rfl ?_
                  refine de_skip rfl rfl rfl ?_
                  refine de_pure rfl rfl rfl rfl (fun H hH => yv_pick rfl rfl (fun _ => rfl) (fun _ => rfl) rfl) ?_
                  refine de_pure rfl rfl rfl rfl (fun H hH => yv_move rfl rfl) ?_
                  refine de_skip rfl rfl rfl ?_
                  refine de_pure rfl rfl rfl rfl (fun H hH => yv_pick rfl rfl (fun _ => rfl) (fun _ => rfl) rfl) ?_
                  refine de_pure rfl rfl rfl rfl (fun H hH => yv_assign rfl rfl) ?_
                  obtain rfl := nxt_e h1
                  refine de_nil (hK _ ⟨false, (), rfl, leH_kn ⟨⟨_, rfl, (.refl _)⟩, trivial⟩ trivial⟩)
              · intro hb; subst hb; replace h1 := cf h1
                refine de_skip rfl rfl rfl ?_
                refine de_skip rfl rfl rfl ?_
                refine de_skip rfl rfl rfl ?_
                refine de_pure rfl rfl rfl rfl (fun H hH => yv_pick rfl rfl (fun _ => rfl) (fun _ => rfl) rfl) ?_
                refine de_pure rfl rfl rfl rfl (fun H hH => yv_move rfl rfl) ?_
                refine de_skip rfl rfl rfl ?_
                refine de_skip rfl rfl rfl ?_
                refine de_skip rfl rfl rfl ?_
                refine de_pure rfl rfl rfl rfl (fun H hH => yv_pick rfl rfl (fun _ => rfl) (fun _ => rfl) rfl) ?_
                refine de_pure rfl rfl rfl rfl (fun H hH => yv_move rfl rfl) ?_
                refine de_skip rfl rfl rfl ?_
                refine de_skip rfl rfl rfl ?_
                refine de_skip rfl rfl rfl ?_
                refine de_pure rfl rfl rfl rfl (fun H hH => yv_pick rfl rfl (fun _ => rfl) (fun _ => rfl) rfl) ?_
                refine de_pure rfl rfl rfl rfl (fun H hH => yv_move rfl rfl) ?_
                refine de_skip rfl rfl rfl ?_
                refine de_pure rfl rfl rfl rfl (fun H hH => yv_pick rfl rfl (fun _ => rfl) (fun _ => rfl) rfl) ?_
                refine de_pure rfl rfl rfl rfl (fun H hH => yv_assign rfl rfl) ?_
                obtain rfl := nxt_e h1
                refine de_nil (hK _ ⟨false, (), rfl, leH_kn ⟨⟨_, rfl, (.refl _)⟩, trivial⟩ trivial⟩)
            · intro hb; subst hb; replace h1 := cf h1
              refine de_skip rfl rfl rfl ?_
              refine de_skip rfl rfl rfl ?_
              refine de_skip rfl rfl rfl ?_
              refine de_pure rfl rfl rfl rfl (fun H hH => yv_pick rfl rfl (fun _ => rfl) (fun _ => rfl) rfl) ?_
              refine de_pure rfl rfl rfl rfl (fun H hH => yv_move rfl rfl) ?_
              refine de_skip rfl rfl rfl ?_
              refine de_skip rfl rfl rfl ?_
              refine de_skip rfl rfl rfl ?_
              refine de_pure rfl rfl rfl rfl (fun H hH => yv_pick rfl rfl (fun _ => rfl) (fun _ => rfl) rfl) ?_
              refine de_pure rfl rfl rfl rfl (fun H hH => yv_move rfl rfl) ?_
              refine de_skip rfl rfl rfl ?_
              refine de_skip rfl rfl rfl ?_
              refine de_skip rfl rfl rfl ?_
              refine de_pure rfl rfl rfl rfl (fun H hH => yv_pick rfl rfl (fun _ => rfl) (fun _ => rfl) rfl) ?_
              refine de_pure rfl rfl rfl rfl (fun H hH => yv_move rfl rfl) ?_
              refine de_skip rfl rfl rfl ?_
              refine de_skip rfl rfl rfl ?_
              refine de_skip rfl rfl rfl ?_
              refine de_pure rfl rfl rfl rfl (fun H hH => yv_pick rfl rfl (fun _ => rfl) (fun _ => rfl) rfl) ?_
              refine de_pure rfl rfl rfl rfl (fun H hH => yv_move rfl rfl) ?_
              refine de_skip rfl rfl rfl ?_
              refine de_pure rfl rfl rfl rfl (fun H hH => yv_pick rfl rfl (fun _ => rfl) (fun _ => rfl) rfl) ?_
              refine de_pure rfl rfl rfl rfl (fun H hH => yv_assign rfl rfl) ?_
              obtain rfl := nxt_e h1
              refine de_nil (hK _ ⟨false, (), rfl, leH_kn ⟨⟨_, rfl, (.refl _)⟩, trivial⟩ trivial⟩)
          · intro hb; subst hb; replace h1 := cf h1
            refine de_skip rfl rfl rfl ?_
            refine de_skip rfl rfl rfl ?_
            refine de_skip rfl rfl rfl ?_
            refine de_skip rfl rfl rfl ?_
            refine de_skip rfl rfl rfl ?_
            refine de_pure rfl rfl rfl rfl (fun H hH => yv_pick rfl rfl (fun _ => rfl) (fun _ => rfl) rfl) ?_
            refine de_pure rfl rfl rfl rfl (fun H hH => yv_move rfl rfl) ?_
            refine de_skip rfl rfl rfl ?_
            refine de_skip rfl rfl rfl ?_
            refine de_skip rfl rfl rfl ?_
            refine de_pure rfl rfl rfl rfl (fun H hH => yv_pick rfl rfl (fun _ => rfl) (fun _ => rfl) rfl) ?_
            refine de_pure rfl rfl rfl rfl (fun H hH => yv_move rfl rfl) ?_
            refine de_skip rfl rfl rfl ?_
            refine de_skip rfl rfl rfl ?_
            refine de_skip rfl rfl rfl ?_
            refine de_pure rfl rfl rfl rfl (fun H hH => yv_pick rfl rfl (fun _ => rfl) (fun _ => rfl) rfl) ?_
            refine de_pure rfl rfl rfl rfl (fun H hH => yv_move rfl rfl) ?_
            refine de_skip rfl rfl rfl ?_
            refine de_skip rfl rfl rfl ?_
            refine de_skip rfl rfl rfl ?_
            refine de_pure rfl rfl rfl rfl (fun H hH => yv_pick rfl rfl (fun _ => rfl) (fun _ => rfl) rfl) ?_
            refine de_pure rfl rfl rfl rfl (fun H hH => yv_move rfl rfl) ?_
            refine de_skip rfl rfl rfl ?_
            refine de_skip rfl rfl rfl ?_
            refine de_skip rfl rfl rfl ?_
            refine de_pure rfl rfl rfl rfl (fun H hH => yv_pick rfl rfl (fun _ => rfl) (fun _ => rfl) rfl) ?_
            refine de_pure rfl rfl rfl rfl (fun H hH => yv_move rfl rfl) ?_
            refine de_skip rfl rfl rfl ?_
            refine de_pure rfl rfl rfl rfl (fun H hH => yv_pick rfl rfl (fun _ => rfl) (fun _ => rfl) rfl) ?_
            refine de_pure rfl rfl rfl rfl (fun H hH => yv_assign rfl rfl) ?_
            obtain rfl := nxt_e h1
            refine de_nil (hK _ ⟨false, (), rfl, leH_kn ⟨⟨_, rfl, (.refl _)⟩, trivial⟩ trivial⟩)
        · intro hb; subst hb; replace h1 := cf h1
          refine de_skip rfl rfl rfl ?_
          refine de_skip rfl rfl rfl ?_
          refine de_skip rfl rfl rfl ?_
          refine de_skip rfl rfl rfl ?_
          refine de_skip rfl rfl rfl ?_
          refine de_skip rfl rfl rfl ?_
          refine de_skip rfl rfl rfl ?_
          refine de_pure rfl rfl rfl rfl (fun H hH => yv_pick rfl rfl (fun _ => rfl) (fun _ => rfl) rfl) ?_
          refine de_pure rfl rfl rfl rfl (fun H hH => yv_move rfl rfl) ?_
          refine de_skip rfl rfl rfl ?_
          refine de_skip rfl rfl rfl ?_
          refine de_skip rfl rfl rfl ?_
          refine de_skip rfl rfl rfl ?_
          refine de_skip rfl rfl rfl ?_
          refine de_pure rfl rfl rfl rfl (fun H hH => yv_pick rfl rfl (fun _ => rfl) (fun _ => rfl) rfl) ?_
          refine de_pure rfl rfl rfl rfl (fun H hH => yv_move rfl rfl) ?_
          refine de_skip rfl rfl rfl ?_
          refine de_skip rfl rfl rfl ?_
          refine de_skip rfl rfl rfl ?_
          refine de_pure rfl rfl rfl rfl (fun H hH => yv_pick rfl rfl (fun _ => rfl) (fun _ => rfl) rfl) ?_
          refine de_pure rfl rfl rfl rfl (fun H hH => yv_move rfl rfl) ?_
          refine de_skip rfl rfl rfl ?_
          refine de_skip rfl rfl rfl ?_
          refine de_skip rfl rfl rfl ?_
          refine de_pure rfl rfl rfl rfl (fun H hH => yv_pick rfl rfl (fun _ => rfl) (fun _ => rfl) rfl) ?_
          refine de_pure rfl rfl rfl rfl (fun H hH => yv_move rfl rfl) ?_
          refine de_skip rfl rfl rfl ?_
          refine de_skip rfl rfl rfl ?_
          refine de_skip rfl rfl rfl ?_
          refine de_pure rfl rfl rfl rfl (fun H hH => yv_pick rfl rfl (fun _ => rfl) (fun _ => rfl) rfl) ?_
          refine de_pure rfl rfl rfl rfl (fun H hH => yv_move rfl rfl) ?_
          refine de_skip rfl rfl rfl ?_
          refine de_skip rfl rfl rfl ?_
          refine de_skip rfl rfl rfl ?_
          refine de_pure rfl rfl rfl rfl (fun H hH => yv_pick rfl rfl (fun _ => rfl) (fun _ => rfl) rfl) ?_
          refine de_pure rfl rfl rfl rfl (fun H hH => yv_move rfl rfl) ?_
          refine de_skip rfl rfl rfl ?_
          refine de_pure rfl rfl rfl rfl (fun H hH => yv_pick rfl rfl (fun _ => rfl) (fun _ => rfl) rfl) ?_
          refine de_pure rfl rfl rfl rfl (fun H hH => yv_assign rfl rfl) ?_
          obtain rfl := nxt_e h1
          refine de_nil (hK _ ⟨false, (), rfl, leH_kn ⟨⟨_, rfl, (.refl _)⟩, trivial⟩ trivial⟩)
      · rintro y1_1 _ rfl
        refine c_show ⟨kn [(6, boo y1_1)], hk []⟩ ?_
        obtain rfl := nxt_e h0
        refine c_ret (hret _ _ _ (.tmp rfl .nil) (fun _ _ h => h) ?_)
        exact .refl _
def d_law04_MasterStarts_L1 (x2 : GMaster) (x18 : GEnt) : Nat → Int → Option ((Unit) ⊕ ((Unit) ⊕ ((Unit) ⊕ (Bool))))
  | 0, _ => none
  | n + 1, y3_1 =>
    bnd (decide (y3_1 < (x2.Weights.length : Int))) fun (x33 : Bool) =>
    cond x33 ((show Option (Bool) from
    (ix x18.Prices y3_1).bind fun (x35 : Int) =>
    bnd (decide (x35 ≠ (-1))) fun (x36 : Bool) =>
    cond x36 (some (true : Bool)) ((ix x18.Down y3_1).bind fun (x37 : Int) =>
    bnd (decide (x37 ≠ 0)) fun (x38 : Bool) =>
    cond x38 (some (true : Bool)) ((ix x18.Rolls y3_1).bind fun (x39 : GRoll) =>
    bnd (!decide ((x39 : GRoll) = ((⟨0, 0, 0, 0, 0, 0, 0, 0, 0, 0, 0⟩ : GRoll) : GRoll))) fun (x40 : Bool) =>
    cond x40 (some (true : Bool)) (bnd (w64 (2 * y3_1)) fun (x41 : Int) =>
    (ix x18.Pools x41).bind fun (x42 : GPool) =>
    bnd (w64 (2 * y3_1)) fun (x43 : Int) =>
    bnd (w64 (x43 + 1)) fun (x44 : Int) =>
    (ix x18.Pools x44).bind fun (x45 : GPool) =>
    bnd (w64 ((x42.Layers.length : Int) + (x45.Layers.length : Int))) fun (x46 : Int) =>
    bnd (decide (x46 ≠ 0)) fun (x47 : Bool) =>
    some (x47 : Bool))))).bind <| fun (y4_1 : Bool) =>
    cond y4_1 (esc (esc (esc (some ((false : Bool)))))) (bnd (w64 (y3_1 + 1)) fun (x51 : Int) =>
    d_law04_MasterStarts_L1 x2 x18 n (x51 : Int))) (brk ())
def d_law04_MasterStarts_L2 (x18 : GEnt) : Nat → Int → Option ((Unit) ⊕ ((Unit) ⊕ ((Unit) ⊕ (Bool))))
  | 0, _ => none
  | n + 1, y6_1 =>
    bnd (decide (y6_1 < 17)) fun (x53 : Bool) =>
    cond x53 ((ix x18.Bal y6_1).bind fun (x54 : Int) =>
    bnd (decide (x54 ≠ 0)) fun (x55 : Bool) =>
    cond x55 (esc (esc (esc (some ((false : Bool)))))) (bnd (w64 (y6_1 + 1)) fun (x59 : Int) =>
    d_law04_MasterStarts_L2 x18 n (x59 : Int))) (brk ())
def d_law04_MasterStarts_L0 (x2 : GMaster) (x4 : GState × Int) : Nat → Int → Option ((Unit) ⊕ (Bool))
  | 0, _ => none
  | n + 1, y1_1 =>
    bnd (decide (y1_1 < (x4.1.Ents.length : Int))) fun (x16 : Bool) =>
    cond x16 ((show Option ((Unit) ⊕ ((Unit) ⊕ (Bool))) from
    (ix x4.1.Ents y1_1).bind fun (x18 : GEnt) =>
    (show Option (Bool) from
    bnd (decide (x18.Now ≠ 1)) fun (x21 : Bool) =>
    cond x21 (some (true : Bool)) (bnd x18.Closed fun (x22 : Bool) =>
    cond x22 (some (true : Bool)) (bnd (w64 ((x2.Weights.length : Int) * 2)) fun (x23 : Int) =>
    bnd (decide ((x18.Pools.length : Int) ≠ x23)) fun (x24 : Bool) =>
    cond x24 (some (true : Bool)) (bnd (decide ((x18.Bal.length : Int) ≠ 17)) fun (x25 : Bool) =>
    cond x25 (some (true : Bool)) (bnd (decide ((x18.Rolls.length : Int) ≠ (x2.Weights.length : Int))) fun (x26 : Bool) =>
    cond x26 (some (true : Bool)) (bnd (decide ((x18.Prices.length : Int) ≠ (x2.Weights.length : Int))) fun (x27 : Bool) =>
    cond x27 (some (true : Bool)) (bnd (decide ((x18.Down.length : Int) ≠ (x2.Weights.length : Int))) fun (x28 : Bool) =>
    cond x28 (some (true : Bool)) (bnd (decide ((x18.Ahead.length : Int) ≠ 0)) fun (x29 : Bool) =>
    some (x29 : Bool))))))))).bind <| fun (y2_1 : Bool) =>
    cond y2_1 (esc (esc (some ((false : Bool))))) ((show Option ((Unit) ⊕ ((Unit) ⊕ ((Unit) ⊕ (Bool)))) from
    d_law04_MasterStarts_L1 x2 x18 n (0 : Int)).bind <| sel <| fun (_ : Unit) =>
    (show Option ((Unit) ⊕ ((Unit) ⊕ ((Unit) ⊕ (Bool)))) from
    d_law04_MasterStarts_L2 x18 n (0 : Int)).bind <| sel <| fun (_ : Unit) =>
    brk ())).bind <| sel <| fun (_ : Unit) =>
    bnd (w64 (y1_1 + 1)) fun (x60 : Int) =>
    d_law04_MasterStarts_L0 x2 x4 n (x60 : Int)) (brk ())
def d_law04_MasterStarts (n : Nat) (a1 : Int) : Option (Bool) :=
(d_law00_Master n a1).bind fun (x2 : GMaster) =>
(d_master_Start n x2).bind fun (x4 : GState × Int) =>
(show Option (Bool) from
bnd (decide (x4.2 ≠ 0)) fun (x7 : Bool) =>
cond x7 (some (true : Bool)) (bnd (decide ((x4.1.Ents.length : Int) ≠ x2.Entities)) fun (x8 : Bool) =>
cond x8 (some (true : Bool)) (bnd (w64 ((x4.1.Receipts.length : Int) + (x4.1.Sales.length : Int))) fun (x9 : Int) =>
bnd (w64 (x9 + (x4.1.Transits.length : Int))) fun (x10 : Int) =>
bnd (w64 (x10 + x4.1.Done)) fun (x11 : Int) =>
bnd (decide (x11 ≠ 0)) fun (x12 : Bool) =>
cond x12 (some (true : Bool)) ((d_master_Same n x4.1.Master x2).bind fun (x13 : Bool) =>
bnd (!x13) fun (x14 : Bool) =>
some (x14 : Bool))))).bind <| fun (y0_1 : Bool) =>
cond y0_1 (some ((false : Bool))) ((show Option ((Unit) ⊕ (Bool)) from
d_law04_MasterStarts_L0 x2 x4 n (0 : Int)).bind <| sel <| fun (_ : Unit) =>
(d_law04_awake n).bind fun (x61 : Bool) =>
some ((x61 : Bool)))
theorem d_law04_MasterStarts_c {n : Nat} {a1 : Int} {r : Bool} (h0 : d_law04_MasterStarts n a1 = some r) : PP Try.prog 8 [int a1] (fun y => y = boo r) := by
  unfold d_law04_MasterStarts at h0
  refine pp_of_pc (R0 := fun y H => Cv (frzH H) y (boo r)) ?_ (fun y H hc => ⟨_, rfl, pvB r, hc⟩)
  refine pc_of' (c := _) Try.func8 rfl rfl ?_; intro Q hret hnorm
  refine c_seq ?_
  refine c_reg ?_; intro K hK
  refine st rfl rfl rfl (yv_assign rfl rfl) ?_
  refine rg_nil (hK _ ?_)
  refine c_seq ?_
  refine c_reg ?_; intro K hK
  refine st rfl rfl rfl (yv_move rfl rfl) ?_
  obtain ⟨x2, e2, h0⟩ := bind_e h0
  refine st rfl rfl rfl (yv_callP rfl rfl (.cons rfl .nil) cal37 (CvL.refl _) (d_law00_Master_c e2)) ?_
  refine se rfl rfl rfl (yl_alloc 1 .any rfl z43 rfl) ?_; rintro _ _ ⟨v3, -, rfl, rfl⟩
  refine sstore rfl rfl (yl_ob (ob' := (⟨43, 5, true, true, v3, [[int x2.Entities, int x2.Periods, lst 1 fI x2.Weights, lst 1 (fL 1 fI) x2.Methods, lst 1 (fL 1 fI) x2.Costs]]⟩ : AObj)) (yl_store rfl sh43 rfl rfl rfl rfl rfl rfl rfl rfl rfl) rfl) ?_
  refine rg_nil (hK _ ?_)
  refine c_seq ?_
  refine c_reg ?_; intro K hK
  refine st rfl rfl rfl (yv_load rfl sh43 rfl (.pt rfl rfl rfl) rfl) ?_
  obtain ⟨x4, e4, h0⟩ := bind_e h0
  refine st rfl rfl rfl (yv_callP rfl rfl (.cons rfl .nil) cal28 (CvL.refl _) (d_master_Start_c e4)) ?_
  refine st rfl rfl rfl (yv_move rfl rfl) ?_
  refine st rfl rfl rfl (yv_extract rfl rfl rfl) ?_
  refine st rfl rfl rfl (yv_extract rfl rfl rfl) ?_
  refine se rfl rfl rfl (yl_alloc 2 .any rfl z53 rfl) ?_; rintro _ _ ⟨v5, -, rfl, rfl⟩
  refine sstore rfl rfl (yl_ob (ob' := (⟨53, 10, true, true, v5, [[int x4.1.Master.Entities, int x4.1.Master.Periods, lst 1 fI x4.1.Master.Weights, lst 1 (fL 1 fI) x4.1.Master.Methods, lst 1 (fL 1 fI) x4.1.Master.Costs, lst 8 GEnt.av x4.1.Ents, lst 8 GReceipt.av x4.1.Receipts, lst 9 GSale.av x4.1.Sales, lst 6 GTransit.av x4.1.Transits, int x4.1.Done]]⟩ : AObj)) (yl_store rfl sh53 rfl rfl rfl rfl rfl rfl rfl rfl rfl) rfl) ?_
  refine st rfl rfl rfl (yv_assign rfl rfl) ?_
  refine rg_nil (hK _ ?_)
  refine c_seq ?_
  refine c_seq ?_
  obtain ⟨j6, h1, h0⟩ := bind_e h0
  refine c_regL (fun (a : Bool) (k : Unit) => ⟨kn [(2, boo false), (3, .pt 1 v3 0 0), (4, .pt 2 v5 0 0), (51, boo a)], hk [(1, ⟨43, 5, true, true, v3, [[int x2.Entities, int x2.Periods, lst 1 fI x2.Weights, lst 1 (fL 1 fI) x2.Methods, lst 1 (fL 1 fI) x2.Costs]]⟩), (2, ⟨53, 10, true, true, v5, [[int x4.1.Master.Entities, int x4.1.Master.Periods, lst 1 fI x4.1.Master.Weights, lst 1 (fL 1 fI) x4.1.Master.Methods, lst 1 (fL 1 fI) x4.1.Master.Costs, lst 8 GEnt.av x4.1.Ents, lst 8 GReceipt.av x4.1.Receipts, lst 9 GSale.av x4.1.Sales, lst 6 GTransit.av x4.1.Transits, int x4.1.Done]]⟩)]⟩) (fun a => a = j6) ?_ ?_
  · intro K hK
    refine st rfl rfl rfl (yv_move rfl rfl) ?_
    obtain ⟨x7, e7, h1⟩ := bnd_e h1
    refine st rfl rfl rfl (yv_to (y := boo x7) (yv_neq rfl rfl rfl) (congrArg boo e7)) ?_
    refine st rfl rfl rfl (yv_move rfl rfl) ?_
    refine scases 20 rfl ?_ ?_
    · intro hb; subst hb; replace h1 := ct h1
      refine sk rfl rfl rfl ?_
      refine sk rfl rfl rfl ?_
      refine sk rfl rfl rfl ?_
      refine sk rfl rfl rfl ?_
      refine sk rfl rfl rfl ?_
      refine sk rfl rfl rfl ?_
      refine st rfl rfl rfl (yv_pick rfl rfl (fun _ => rfl) (fun _ => rfl) rfl) ?_
      refine st rfl rfl rfl (yv_move rfl rfl) ?_
      refine sk rfl rfl rfl ?_
      refine sk rfl rfl rfl ?_
      refine sk rfl rfl rfl ?_
      refine sk rfl rfl rfl ?_
      refine sk rfl rfl rfl ?_
      refine sk rfl rfl rfl ?_
      refine sk rfl rfl rfl ?_
      refine sk rfl rfl rfl ?_
      refine sk rfl rfl rfl ?_
      refine sk rfl rfl rfl ?_
      refine sk rfl rfl rfl ?_
      refine sk rfl rfl rfl ?_
      refine sk rfl rfl rfl ?_
      refine sk rfl rfl rfl ?_
      refine sk rfl rfl rfl ?_
      refine st rfl rfl rfl (yv_pick rfl rfl (fun _ => rfl) (fun _ => rfl) rfl) ?_
      refine st rfl rfl rfl (yv_move rfl rfl) ?_
      refine sk rfl rfl rfl ?_
      refine sk rfl rfl rfl ?_
      refine sk rfl rfl rfl ?_
      refine sk rfl rfl rfl ?_
      refine sk rfl rfl rfl ?_
      refine st rfl rfl rfl (yv_pick rfl rfl (fun _ => rfl) (fun _ => rfl) rfl) ?_
      obtain rfl := nxt_e h1
      refine rg_nil (hK _ ⟨true, (), rfl, leH_kn ⟨⟨_, rfl, (.refl _)⟩, ⟨_, rfl, (.refl _)⟩, ⟨_, rfl, (.refl _)⟩, ⟨_, rfl, (.refl _)⟩, trivial⟩ ⟨⟨_, rfl, (.refl _)⟩, ⟨_, rfl, (.refl _)⟩, trivial⟩⟩)
    · intro hb; subst hb; replace h1 := cf h1
      refine st rfl rfl rfl (yv_fieldAddr rfl fo53_1 rfl (.pt rfl rfl rfl) (.pt _ _ _ _ _)) ?_
      refine st rfl rfl rfl (yv_load rfl sh48 rfl (.pt rfl rfl rfl) rfl) ?_
      refine st rfl rfl rfl (yv_len_sl rfl Try.underlying48 rfl (lst_len _)) ?_
      refine st rfl rfl rfl (yv_fieldAddr rfl fo43_0 rfl (.pt rfl rfl rfl) (.pt _ _ _ _ _)) ?_
      refine st rfl rfl rfl (yv_load rfl sh3 rfl (.pt rfl rfl rfl) rfl) ?_
      obtain ⟨x8, e8, h1⟩ := bnd_e h1
      refine st rfl rfl rfl (yv_to (y := boo x8) (yv_neq rfl rfl rfl) (congrArg boo e8)) ?_
      refine st rfl rfl rfl (yv_pick rfl rfl (fun _ => rfl) (fun _ => rfl) rfl) ?_
      refine st rfl rfl rfl (yv_move rfl rfl) ?_
      refine scases 28 rfl ?_ ?_
      · intro hb; subst hb; replace h1 := ct h1
        refine sk rfl rfl rfl ?_
        refine sk rfl rfl rfl ?_
        refine sk rfl rfl rfl ?_
        refine sk rfl rfl rfl ?_
        refine sk rfl rfl rfl ?_
        refine sk rfl rfl rfl ?_
        refine sk rfl rfl rfl ?_
        refine sk rfl rfl rfl ?_
        refine sk rfl rfl rfl ?_
        refine sk rfl rfl rfl ?_
        refine sk rfl rfl rfl ?_
        refine sk rfl rfl rfl ?_
        refine sk rfl rfl rfl ?_
        refine sk rfl rfl rfl ?_
        refine sk rfl rfl rfl ?_
        refine st rfl rfl rfl (yv_pick rfl rfl (fun _ => rfl) (fun _ => rfl) rfl) ?_
        refine st rfl rfl rfl (yv_move rfl rfl) ?_
        refine sk rfl rfl rfl ?_
        refine sk rfl rfl rfl ?_
        refine sk rfl rfl rfl ?_
        refine sk rfl rfl rfl ?_
        refine sk rfl rfl rfl ?_
        refine st rfl rfl rfl (yv_pick rfl rfl (fun _ => rfl) (fun _ => rfl) rfl) ?_
        obtain rfl := nxt_e h1
        refine rg_nil (hK _ ⟨true, (), rfl, leH_kn ⟨⟨_, rfl, (.refl _)⟩, ⟨_, rfl, (.refl _)⟩, ⟨_, rfl, (.refl _)⟩, ⟨_, rfl, (.refl _)⟩, trivial⟩ ⟨⟨_, rfl, (.refl _)⟩, ⟨_, rfl, (.refl _)⟩, trivial⟩⟩)
      · intro hb; subst hb; replace h1 := cf h1
        refine st rfl rfl rfl (yv_fieldAddr rfl fo53_2 rfl (.pt rfl rfl rfl) (.pt _ _ _ _ _)) ?_
        refine st rfl rfl rfl (yv_load rfl sh49 rfl (.pt rfl rfl rfl) rfl) ?_
        refine st rfl rfl rfl (yv_len_sl rfl Try.underlying49 rfl (lst_len _)) ?_
        refine st rfl rfl rfl (yv_fieldAddr rfl fo53_3 rfl (.pt rfl rfl rfl) (.pt _ _ _ _ _)) ?_
        refine st rfl rfl rfl (yv_load rfl sh50 rfl (.pt rfl rfl rfl) rfl) ?_
        refine st rfl rfl rfl (yv_len_sl rfl Try.underlying50 rfl (lst_len _)) ?_
        obtain ⟨x9, e9, h1⟩ := bnd_e h1
        refine st rfl rfl rfl (yv_add rfl rfl rfl e9) ?_
        refine st rfl rfl rfl (yv_fieldAddr rfl fo53_4 rfl (.pt rfl rfl rfl) (.pt _ _ _ _ _)) ?_
        refine st rfl rfl rfl (yv_load rfl sh51 rfl (.pt rfl rfl rfl) rfl) ?_
        refine st rfl rfl rfl (yv_len_sl rfl Try.underlying51 rfl (lst_len _)) ?_
        obtain ⟨x10, e10, h1⟩ := bnd_e h1
        refine st rfl rfl rfl (yv_add rfl rfl rfl e10) ?_
        refine st rfl rfl rfl (yv_fieldAddr rfl fo53_5 rfl (.pt rfl rfl rfl) (.pt _ _ _ _ _)) ?_
        refine st rfl rfl rfl (yv_load rfl sh3 rfl (.pt rfl rfl rfl) rfl) ?_
        obtain ⟨x11, e11, h1⟩ := bnd_e h1
        refine st rfl rfl rfl (yv_add rfl rfl rfl e11) ?_
        obtain ⟨x12, e12, h1⟩ := bnd_e h1
        refine st rfl rfl rfl (yv_to (y := boo x12) (yv_neq rfl rfl rfl) (congrArg boo e12)) ?_
        refine st rfl rfl rfl (yv_pick rfl rfl (fun _ => rfl) (fun _ => rfl) rfl) ?_
        refine st rfl rfl rfl (yv_move rfl rfl) ?_
        refine scases 45 rfl ?_ ?_
        · intro hb; subst hb; replace h1 := ct h1
          refine sk rfl rfl rfl ?_
          refine sk rfl rfl rfl ?_
          refine sk rfl rfl rfl ?_
          refine sk rfl rfl rfl ?_
          refine sk rfl rfl rfl ?_
          refine st rfl rfl rfl (yv_pick rfl rfl (fun _ => rfl) (fun _ => rfl) rfl) ?_
          obtain rfl := nxt_e h1
          refine rg_nil (hK _ ⟨true, (), rfl, leH_kn ⟨⟨_, rfl, (.refl _)⟩, ⟨_, rfl, (.refl _)⟩, ⟨_, rfl, (.refl _)⟩, ⟨_, rfl, (.refl _)⟩, trivial⟩ ⟨⟨_, rfl, (.refl _)⟩, ⟨_, rfl, (.refl _)⟩, trivial⟩⟩)
        · intro hb; subst hb; replace h1 := cf h1
          refine st rfl rfl rfl (yv_fieldAddr rfl fo53_0 rfl (.pt rfl rfl rfl) (.pt _ _ _ _ _)) ?_
          refine st rfl rfl rfl (yv_load rfl sh43 rfl (.pt rfl rfl rfl) rfl) ?_
          refine st rfl rfl rfl (yv_load rfl sh43 rfl (.pt rfl rfl rfl) rfl) ?_
          obtain ⟨x13, e13, h1⟩ := bind_e h1
          refine st rfl rfl rfl (yv_callP rfl rfl (.cons rfl (.cons rfl .nil)) cal32 (CvL.refl _) (d_master_Same_c e13)) ?_
          obtain ⟨x14, e14, h1⟩ := bnd_e h1
          refine st rfl rfl rfl (yv_not rfl rfl e14) ?_
          refine st rfl rfl rfl (yv_pick rfl rfl (fun _ => rfl) (fun _ => rfl) rfl) ?_
          obtain rfl := nxt_e h1
          refine rg_nil (hK _ ⟨x14, (), rfl, leH_kn ⟨⟨_, rfl, (.refl _)⟩, ⟨_, rfl, (.refl _)⟩, ⟨_, rfl, (.refl _)⟩, ⟨_, rfl, (.refl _)⟩, trivial⟩ ⟨⟨_, rfl, (.refl _)⟩, ⟨_, rfl, (.refl _)⟩, trivial⟩⟩)
  · rintro y0_1 _ rfl
    refine c_show ⟨kn [(2, boo false), (3, .pt 1 v3 0 0), (4, .pt 2 v5 0 0), (51, boo y0_1)], hk [(1, ⟨43, 5, true, true, v3, [[int x2.Entities, int x2.Periods, lst 1 fI x2.Weights, lst 1 (fL 1 fI) x2.Methods, lst 1 (fL 1 fI) x2.Costs]]⟩), (2, ⟨53, 10, true, true, v5, [[int x4.1.Master.Entities, int x4.1.Master.Periods, lst 1 fI x4.1.Master.Weights, lst 1 (fL 1 fI) x4.1.Master.Methods, lst 1 (fL 1 fI) x4.1.Master.Costs, lst 8 GEnt.av x4.1.Ents, lst 8 GReceipt.av x4.1.Receipts, lst 9 GSale.av x4.1.Sales, lst 6 GTransit.av x4.1.Transits, int x4.1.Done]]⟩)]⟩ ?_
    refine c_if (b := y0_1) rfl ?_ ?_
    · intro hb; subst hb; replace h0 := ct h0
      refine c_seq ?_
      refine c_reg ?_; intro K hK
      refine st rfl rfl rfl (yv_assign rfl rfl) ?_
      refine rg_nil (hK _ ?_)
      obtain rfl := nxt_e h0
      refine c_ret (hret _ _ _ (.tmp rfl .nil) (fun _ _ h => h) ?_)
      exact .refl _
    · intro hb; subst hb; replace h0 := cf h0
      refine c_skip ?_
      refine c_seq ?_
      refine c_reg ?_; intro K hK
      refine st rfl rfl rfl (yv_fieldAddr rfl fo43_2 rfl (.pt rfl rfl rfl) (.pt _ _ _ _ _)) ?_
      refine st rfl rfl rfl (yv_load rfl sh22 rfl (.pt rfl rfl rfl) rfl) ?_
      refine st rfl rfl rfl (yv_len_sl rfl Try.underlying22 rfl (lst_len _)) ?_
      refine st rfl rfl rfl (yv_assign rfl rfl) ?_
      refine rg_nil (hK _ ?_)
      refine c_seq ?_
      refine c_seq ?_
      refine c_reg ?_; intro K hK
      refine st rfl rfl rfl (yv_assign rfl rfl) ?_
      refine rg_nil (hK _ ?_)
      obtain ⟨j15, h1, h0⟩ := bind_e h0
      refine c_joinL (fun (a : Unit) (k : Unit) => ⟨kn [(2, boo false)], hk []⟩) (fun a => j15 = .inl a) ?_ ?_
      · intro Q1 jn1 jx1 jr1
        refine c_block ?_; intro Q2 bn2 bx2 br2 bo2
        refine c_loopD (fun (a : Int) (k : Unit) => ⟨kn [(2, boo false), (4, .pt 2 v5 0 0), (6, int (x2.Weights.length : Int)), (7, int a)], hk [(2, ⟨53, 10, true, true, v5, [[int x4.1.Master.Entities, int x4.1.Master.Periods, lst 1 fI x4.1.Master.Weights, lst 1 (fL 1 fI) x4.1.Master.Methods, lst 1 (fL 1 fI) x4.1.Master.Costs, lst 8 GEnt.av x4.1.Ents, lst 8 GReceipt.av x4.1.Receipts, lst 9 GSale.av x4.1.Sales, lst 6 GTransit.av x4.1.Transits, int x4.1.Done]]⟩)]⟩) (fun n (a : Int) => d_law04_MasterStarts_L0 x2 x4 n a) (0 : Int) () h1 (fun _ => rfl)
          (leH_kn ⟨⟨_, rfl, (.refl _)⟩, ⟨_, rfl, (.refl _)⟩, ⟨_, rfl, (.refl _)⟩, ⟨_, rfl, (.refl _)⟩, trivial⟩ ⟨⟨_, rfl, (.refl _)⟩, trivial⟩) ?_
        rintro n y1_1 _ hm h1 Q3 ln3 lx3 lr3
        replace h1 : d_law04_MasterStarts_L0 x2 x4 (n + 1) y1_1 = some _ := h1
        rw [d_law04_MasterStarts_L0] at h1
        refine c_show ⟨kn [(2, boo false), (4, .pt 2 v5 0 0), (6, int (x2.Weights.length : Int)), (7, int y1_1)], hk [(2, ⟨53, 10, true, true, v5, [[int x4.1.Master.Entities, int x4.1.Master.Periods, lst 1 fI x4.1.Master.Weights, lst 1 (fL 1 fI) x4.1.Master.Methods, lst 1 (fL 1 fI) x4.1.Master.Costs, lst 8 GEnt.av x4.1.Ents, lst 8 GReceipt.av x4.1.Receipts, lst 9 GSale.av x4.1.Sales, lst 6 GTransit.av x4.1.Transits, int x4.1.Done]]⟩)]⟩ ?_
        refine c_seq ?_
        refine c_seq ?_
        refine c_reg ?_; intro K hK
        refine st rfl rfl rfl (yv_move rfl rfl) ?_
        refine st rfl rfl rfl (yv_fieldAddr rfl fo53_1 rfl (.pt rfl rfl rfl) (.pt _ _ _ _ _)) ?_
        refine st rfl rfl rfl (yv_load rfl sh48 rfl (.pt rfl rfl rfl) rfl) ?_
        refine st rfl rfl rfl (yv_len_sl rfl Try.underlying48 rfl (lst_len _)) ?_
        obtain ⟨x16, e16, h1⟩ := bnd_e h1
        refine st rfl rfl rfl (yv_to (y := boo x16) (yv_lss rfl rfl rfl) (congrArg boo e16)) ?_
        refine rg_nil (hK _ ?_)
        refine c_if (b := x16) rfl ?_ ?_
        · intro hb; subst hb; replace h1 := ct h1
          refine c_skip ?_
          refine c_seq ?_
          obtain ⟨j17, h2, h1⟩ := bind_e h1
          refine c_joinL (fun (a : Unit) (k : Unit) => ⟨kn [(2, boo false), (4, .pt 2 v5 0 0), (6, int (x2.Weights.length : Int)), (7, int y1_1)], hk [(2, ⟨53, 10, true, true, v5, [[int x4.1.Master.Entities, int x4.1.Master.Periods, lst 1 fI x4.1.Master.Weights, lst 1 (fL 1 fI) x4.1.Master.Methods, lst 1 (fL 1 fI) x4.1.Master.Costs, lst 8 GEnt.av x4.1.Ents, lst 8 GReceipt.av x4.1.Receipts, lst 9 GSale.av x4.1.Sales, lst 6 GTransit.av x4.1.Transits, int x4.1.Done]]⟩)]⟩) (fun a => j17 = .inl a) ?_ ?_
          · intro Q4 jn4 jx4 jr4
            refine c_block ?_; intro Q5 bn5 bx5 br5 bo5
            refine c_seq ?_
            refine c_reg ?_; intro K hK
            refine st rfl rfl rfl (yv_fieldAddr rfl fo53_1 rfl (.pt rfl rfl rfl) (.pt _ _ _ _ _)) ?_
            refine st rfl rfl rfl (yv_load rfl sh48 rfl (.pt rfl rfl rfl) rfl) ?_
            refine st rfl rfl rfl (yv_move rfl rfl) ?_
            obtain ⟨x18, e18, h2⟩ := bind_e h2
            refine st rfl rfl rfl (yv_to (y := .pp [int x18.Now, boo x18.Closed, lst 4 GPool.av x18.Pools, lst 1 fI x18.Bal, lst 11 GRoll.av x18.Rolls, lst 1 fI x18.Prices, lst 1 fI x18.Down, lst 8 GEnt.av x18.Ahead]) (yv_ixT rfl Try.underlying48 sh66 rfl rfl e18) (congrArg AV.pp (GEnt.av_eq x18))) ?_
            refine st rfl rfl rfl (yv_load rfl sh66 rfl (.pp _) rfl) ?_
            refine se rfl rfl rfl (yl_alloc 3 .any rfl z66 rfl) ?_; rintro _ _ ⟨v19, -, rfl, rfl⟩
            refine sstore rfl rfl (yl_ob (ob' := (⟨66, 8, true, true, v19, [[int x18.Now, boo x18.Closed, lst 4 GPool.av x18.Pools, lst 1 fI x18.Bal, lst 11 GRoll.av x18.Rolls, lst 1 fI x18.Prices, lst 1 fI x18.Down, lst 8 GEnt.av x18.Ahead]]⟩ : AObj)) (yl_store rfl sh66 rfl rfl rfl rfl rfl rfl rfl rfl rfl) rfl) ?_
            refine rg_nil (hK _ ?_)
            refine c_seq ?_
            refine c_seq ?_
            obtain ⟨j20, h3, h2⟩ := bind_e h2
            refine c_regL (fun (a : Bool) (k : Unit) => ⟨kn [(2, boo false), (4, .pt 2 v5 0 0), (6, int (x2.Weights.length : Int)), (7, int y1_1), (8, .pt 3 v19 0 0), (114, boo a)], hk [(2, ⟨53, 10, true, true, v5, [[int x4.1.Master.Entities, int x4.1.Master.Periods, lst 1 fI x4.1.Master.Weights, lst 1 (fL 1 fI) x4.1.Master.Methods, lst 1 (fL 1 fI) x4.1.Master.Costs, lst 8 GEnt.av x4.1.Ents, lst 8 GReceipt.av x4.1.Receipts, lst 9 GSale.av x4.1.Sales, lst 6 GTransit.av x4.1.Transits, int x4.1.Done]]⟩), (3, ⟨66, 8, true, true, v19, [[int x18.Now, boo x18.Closed, lst 4 GPool.av x18.Pools, lst 1 fI x18.Bal, lst 11 GRoll.av x18.Rolls, lst 1 fI x18.Prices, lst 1 fI x18.Down, lst 8 GEnt.av x18.Ahead]]⟩)]⟩) (fun a => a = j20) ?_ ?_
            · intro K hK
              refine st rfl rfl rfl (yv_fieldAddr rfl fo66_0 rfl (.pt rfl rfl rfl) (.pt _ _ _ _ _)) ?_
              refine st rfl rfl rfl (yv_load rfl sh3 rfl (.pt rfl rfl rfl) rfl) ?_
              obtain ⟨x21, e21, h3⟩ := bnd_e h3
              refine st rfl rfl rfl (yv_to (y := boo x21) (yv_neq rfl rfl rfl) (congrArg boo e21)) ?_
              refine st rfl rfl rfl (yv_move rfl rfl) ?_
              refine scases 70 rfl ?_ ?_
              · intro hb; subst hb; replace h3 := ct h3
                refine sk rfl rfl rfl ?_
                refine sk rfl rfl rfl ?_
                refine st rfl rfl rfl (yv_pick rfl rfl (fun _ => rfl) (fun _ => rfl) rfl) ?_
                refine st rfl rfl rfl (yv_move rfl rfl) ?_
                refine sk rfl rfl rfl ?_
                refine sk rfl rfl rfl ?_
                refine sk rfl rfl rfl ?_
                refine sk rfl rfl rfl ?_
                refine sk rfl rfl rfl ?_
                refine sk rfl rfl rfl ?_
                refine st rfl rfl rfl (yv_pick rfl rfl (fun _ => rfl) (fun _ => rfl) rfl) ?_
                refine st rfl rfl rfl (yv_move rfl rfl) ?_
                refine sk rfl rfl rfl ?_
                refine sk rfl rfl rfl ?_
                refine sk rfl rfl rfl ?_
                refine sk rfl rfl rfl ?_
                refine st rfl rfl rfl (yv_pick rfl rfl (fun _ => rfl) (fun _ => rfl) rfl) ?_
                refine st rfl rfl rfl (yv_move rfl rfl) ?_
                refine sk rfl rfl rfl ?_
                refine sk rfl rfl rfl ?_
                refine sk rfl rfl rfl ?_
                refine sk rfl rfl rfl ?_
                refine sk rfl rfl rfl ?_
                refine st rfl rfl rfl (yv_pick rfl rfl (fun _ => rfl) (fun _ => rfl) rfl) ?_
                refine st rfl rfl rfl (yv_move rfl rfl) ?_
                refine sk rfl rfl rfl ?_
                refine sk rfl rfl rfl ?_
                refine sk rfl rfl rfl ?_
                refine sk rfl rfl rfl ?_
                refine sk rfl rfl rfl ?_
                refine st rfl rfl rfl (yv_pick rfl rfl (fun _ => rfl) (fun _ => rfl) rfl) ?_
                refine st rfl rfl rfl (yv_move rfl rfl) ?_
                refine sk rfl rfl rfl ?_
                refine sk rfl rfl rfl ?_
                refine sk rfl rfl rfl ?_
                refine sk rfl rfl rfl ?_
                refine sk rfl rfl rfl ?_
                refine st rfl rfl rfl (yv_pick rfl rfl (fun _ => rfl) (fun _ => rfl) rfl) ?_
                refine st rfl rfl rfl (yv_move rfl rfl) ?_
                refine sk rfl rfl rfl ?_
                refine sk rfl rfl rfl ?_
                refine sk rfl rfl rfl ?_
                refine sk rfl rfl rfl ?_
                refine st rfl rfl rfl (yv_pick rfl rfl (fun _ => rfl) (fun _ => rfl) rfl) ?_
                obtain rfl := nxt_e h3
                refine rg_nil (hK _ ⟨true, (), rfl, leH_kn ⟨⟨_, rfl, (.refl _)⟩, ⟨_, rfl, (.refl _)⟩, ⟨_, rfl, (.refl _)⟩, ⟨_, rfl, (.refl _)⟩, ⟨_, rfl, (.refl _)⟩, ⟨_, rfl, (.refl _)⟩, trivial⟩ ⟨⟨_, rfl, (.refl _)⟩, ⟨_, rfl, (.refl _)⟩, trivial⟩⟩)
              · intro hb; subst hb; replace h3 := cf h3
                refine st rfl rfl rfl (yv_fieldAddr rfl fo66_1 rfl (.pt rfl rfl rfl) (.pt _ _ _ _ _)) ?_
                refine st rfl rfl rfl (yv_load rfl sh4 rfl (.pt rfl rfl rfl) rfl) ?_
                refine st rfl rfl rfl (yv_pick rfl rfl (fun _ => rfl) (fun _ => rfl) rfl) ?_
                refine st rfl rfl rfl (yv_move rfl rfl) ?_
                obtain ⟨x22, e22, h3⟩ := bnd_e h3
                refine sas 74 (boo x22) rfl (congrArg boo e22) ?_
                refine scases 74 rfl ?_ ?_
                · intro hb; subst hb; replace h3 := ct h3
                  refine sk rfl rfl rfl ?_
                  refine sk rfl rfl rfl ?_
                  refine sk rfl rfl rfl ?_
                  refine sk rfl rfl rfl ?_
                  refine sk rfl rfl rfl ?_
                  refine sk rfl rfl rfl ?_
                  refine st rfl rfl rfl (yv_pick rfl rfl (fun _ => rfl) (fun _ => rfl) rfl) ?_
                  refine st rfl rfl rfl (yv_move rfl rfl) ?_
                  refine sk rfl rfl rfl ?_
                  refine sk rfl rfl rfl ?_
                  refine sk rfl rfl rfl ?_
                  refine sk rfl rfl rfl ?_
                  refine st rfl rfl rfl (yv_pick rfl rfl (fun _ => rfl) (fun _ => rfl) rfl) ?_
                  refine st rfl rfl rfl (yv_move rfl rfl) ?_
                  refine sk rfl rfl rfl ?_
                  refine sk rfl rfl rfl ?_
                  refine sk rfl rfl rfl ?_
                  refine sk rfl rfl rfl ?_
                  refine sk rfl rfl rfl ?_
                  refine st rfl rfl rfl (yv_pick rfl rfl (fun _ => rfl) (fun _ => rfl) rfl) ?_
                  refine st rfl rfl rfl (yv_move rfl rfl) ?_
                  refine sk rfl rfl rfl ?_
                  refine sk rfl rfl rfl ?_
                  refine sk rfl rfl rfl ?_
                  refine sk rfl rfl rfl ?_
                  refine sk rfl rfl rfl ?_
                  refine st rfl rfl rfl (yv_pick rfl rfl (fun _ => rfl) (fun _ => rfl) rfl) ?_
                  refine st rfl rfl rfl (yv_move rfl rfl) ?_
                  refine sk rfl rfl rfl ?_
                  refine sk rfl rfl rfl ?_
                  refine sk rfl rfl rfl ?_
                  refine sk rfl rfl rfl ?_
                  refine sk rfl rfl rfl ?_
                  refine st rfl rfl rfl (yv_pick rfl rfl (fun _ => rfl) (fun _ => rfl) rfl) ?_
                  refine st rfl rfl rfl (yv_move rfl rfl) ?_
                  refine sk rfl rfl rfl ?_
                  refine sk rfl rfl rfl ?_
                  refine sk rfl rfl rfl ?_
                  refine sk rfl rfl rfl ?_
                  refine st rfl rfl rfl (yv_pick rfl rfl (fun _ => rfl) (fun _ => rfl) rfl) ?_
                  obtain rfl := nxt_e h3
                  refine rg_nil (hK _ ⟨true, (), rfl, leH_kn ⟨⟨_, rfl, (.refl _)⟩, ⟨_, rfl, (.refl _)⟩, ⟨_, rfl, (.refl _)⟩, ⟨_, rfl, (.refl _)⟩, ⟨_, rfl, (.refl _)⟩, ⟨_, rfl, (.refl _)⟩, trivial⟩ ⟨⟨_, rfl, (.refl _)⟩, ⟨_, rfl, (.refl _)⟩, trivial⟩⟩)
                · intro hb; subst hb; replace h3 := cf h3
                  refine st rfl rfl rfl (yv_fieldAddr rfl fo66_2 rfl (.pt rfl rfl rfl) (.pt _ _ _ _ _)) ?_
                  refine st rfl rfl rfl (yv_load rfl sh63 rfl (.pt rfl rfl rfl) rfl) ?_
                  refine st rfl rfl rfl (yv_len_sl rfl Try.underlying63 rfl (lst_len _)) ?_
                  refine st rfl rfl rfl (yv_move rfl rfl) ?_
                  obtain ⟨x23, e23, h3⟩ := bnd_e h3
                  refine st rfl rfl rfl (yv_mul rfl rfl rfl e23) ?_
                  obtain ⟨x24, e24, h3⟩ := bnd_e h3
                  refine st rfl rfl rfl (yv_to (y := boo x24) (yv_neq rfl rfl rfl) (congrArg boo e24)) ?_
                  refine st rfl rfl rfl (yv_pick rfl rfl (fun _ => rfl) (fun _ => rfl) rfl) ?_
                  refine st rfl rfl rfl (yv_move rfl rfl) ?_
                  refine scases 82 rfl ?_ ?_
                  · intro hb; subst hb; replace h3 := ct h3
                    refine sk rfl rfl rfl ?_
                    refine sk rfl rfl rfl ?_
                    refine sk rfl rfl rfl ?_
                    refine sk rfl rfl rfl ?_
                    refine st rfl rfl rfl (yv_pick rfl rfl (fun _ => rfl) (fun _ => rfl) rfl) ?_
                    refine st rfl rfl rfl (yv_move rfl rfl) ?_
                    refine sk rfl rfl rfl ?_
                    refine sk rfl rfl rfl ?_
                    refine sk rfl rfl rfl ?_
                    refine sk rfl rfl rfl ?_
                    refine sk rfl rfl rfl ?_
                    refine st rfl rfl rfl (yv_pick rfl rfl (fun _ => rfl) (fun _ => rfl) rfl) ?_
                    refine st rfl rfl rfl (yv_move rfl rfl) ?_
                    refine sk rfl rfl rfl ?_
                    refine sk rfl rfl rfl ?_
                    refine sk rfl rfl rfl ?_
                    refine sk rfl rfl rfl ?_
                    refine sk rfl rfl rfl ?_
                    refine st rfl rfl rfl (yv_pick rfl rfl (fun _ => rfl) (fun _ => rfl) rfl) ?_
                    refine st rfl rfl rfl (yv_move rfl rfl) ?_
                    refine sk rfl rfl rfl ?_
                    refine sk rfl rfl rfl ?_
                    refine sk rfl rfl rfl ?_
                    refine sk rfl rfl rfl ?_
                    refine sk rfl rfl rfl ?_
                    refine st rfl rfl rfl (yv_pick rfl rfl (fun _ => rfl) (fun _ => rfl) rfl) ?_
                    refine st rfl rfl rfl (yv_move rfl rfl) ?_
                    refine sk rfl rfl rfl ?_
                    refine sk rfl rfl rfl ?_
                    refine sk rfl rfl rfl ?_
                    refine sk rfl rfl rfl ?_
                    refine st rfl rfl rfl (yv_pick rfl rfl (fun _ => rfl) (fun _ => rfl) rfl) ?_
                    obtain rfl := nxt_e h3
                    refine rg_nil (hK _ ⟨true, (), rfl, leH_kn ⟨⟨_, rfl, (.refl _)⟩, ⟨_, rfl, (.refl _)⟩, ⟨_, rfl, (.refl _)⟩, ⟨_, rfl, (.refl _)⟩, ⟨_, rfl, (.refl _)⟩, ⟨_, rfl, (.refl _)⟩, trivial⟩ ⟨⟨_, rfl, (.refl _)⟩, ⟨_, rfl, (.refl _)⟩, trivial⟩⟩)
                  · intro hb; subst hb; replace h3 := cf h3
                    refine st rfl rfl rfl (yv_fieldAddr rfl fo66_3 rfl (.pt rfl rfl rfl) (.pt _ _ _ _ _)) ?_
                    refine st rfl rfl rfl (yv_load rfl sh22 rfl (.pt rfl rfl rfl) rfl) ?_
                    refine st rfl rfl rfl (yv_len_sl rfl Try.underlying22 rfl (lst_len _)) ?_
                    obtain ⟨x25, e25, h3⟩ := bnd_e h3
                    refine st rfl rfl rfl (yv_to (y := boo x25) (yv_neq rfl rfl rfl) (congrArg boo e25)) ?_
                    refine st rfl rfl rfl (yv_pick rfl rfl (fun _ => rfl) (fun _ => rfl) rfl) ?_
                    refine st rfl rfl rfl (yv_move rfl rfl) ?_
                    refine scases 88 rfl ?_ ?_
                    · intro hb; subst hb; replace h3 := ct h3
                      refine sk rfl rfl rfl ?_
                      refine sk rfl rfl rfl ?_
                      refine sk rfl rfl rfl ?_
                      refine sk rfl rfl rfl ?_
                      refine sk rfl rfl rfl ?_
                      refine st rfl rfl rfl (yv_pick rfl rfl (fun _ => rfl) (fun _ => rfl) rfl) ?_
                      refine st rfl rfl rfl (yv_move rfl rfl) ?_
                      refine sk rfl rfl rfl ?_
                      refine sk rfl rfl rfl ?_
                      refine sk rfl rfl rfl ?_
                      refine sk rfl rfl rfl ?_
                      refine sk rfl rfl rfl ?_
                      refine st rfl rfl rfl (yv_pick rfl rfl (fun _ => rfl) (fun _ => rfl) rfl) ?_
                      refine st rfl rfl rfl (yv_move rfl rfl) ?_
                      refine sk rfl rfl rfl ?_
                      refine sk rfl rfl rfl ?_
                      refine sk rfl rfl rfl ?_
                      refine sk rfl rfl rfl ?_
                      refine sk rfl rfl rfl ?_
                      refine st rfl rfl rfl (yv_pick rfl rfl (fun _ => rfl) (fun _ => rfl) rfl) ?_
                      refine st rfl rfl rfl (yv_move rfl rfl) ?_
                      refine sk rfl rfl rfl ?_
                      refine sk rfl rfl rfl ?_
                      refine sk rfl rfl rfl ?_
                      refine sk rfl rfl rfl ?_
                      refine st rfl rfl rfl (yv_pick rfl rfl (fun _ => rfl) (fun _ => rfl) rfl) ?_
                      obtain rfl := nxt_e h3
                      refine rg_nil (hK _ ⟨true, (), rfl, leH_kn ⟨⟨_, rfl, (.refl _)⟩, ⟨_, rfl, (.refl _)⟩, ⟨_, rfl, (.refl _)⟩, ⟨_, rfl, (.refl _)⟩, ⟨_, rfl, (.refl _)⟩, ⟨_, rfl, (.refl _)⟩, trivial⟩ ⟨⟨_, rfl, (.refl _)⟩, ⟨_, rfl, (.refl _)⟩, trivial⟩⟩)
                    · intro hb; subst hb; replace h3 := cf h3
                      refine st rfl rfl rfl (yv_fieldAddr rfl fo66_4 rfl (.pt rfl rfl rfl) (.pt _ _ _ _ _)) ?_
                      refine st rfl rfl rfl (yv_load rfl sh64 rfl (.pt rfl rfl rfl) rfl) ?_
                      refine st rfl rfl rfl (yv_len_sl rfl Try.underlying64 rfl (lst_len _)) ?_
                      refine st rfl rfl rfl (yv_move rfl rfl) ?_
                      obtain ⟨x26, e26, h3⟩ := bnd_e h3
                      refine st rfl rfl rfl (yv_to (y := boo x26) (yv_neq rfl rfl rfl) (congrArg boo e26)) ?_
                      refine st rfl rfl rfl (yv_pick rfl rfl (fun _ => rfl) (fun _ => rfl) rfl) ?_
                      refine st rfl rfl rfl (yv_move rfl rfl) ?_
                      refine scases 95 rfl ?_ ?_
                      · intro hb; subst hb; replace h3 := ct h3
                        refine sk rfl rfl rfl ?_
                        refine sk rfl rfl rfl ?_
                        refine sk rfl rfl rfl ?_
                        refine sk rfl rfl rfl ?_
                        refine sk rfl rfl rfl ?_
                        refine st rfl rfl rfl (yv_pick rfl rfl (fun _ => rfl) (fun _ => rfl) rfl) ?_
                        refine st rfl rfl rfl (yv_move rfl rfl) ?_
                        refine sk rfl rfl rfl ?_
                        refine sk rfl rfl rfl ?_
                        refine sk rfl rfl rfl ?_
                        refine sk rfl rfl rfl ?_
                        refine sk rfl rfl rfl ?_
                        refine st rfl rfl rfl (yv_pick rfl rfl (fun _ => rfl) (fun _ => rfl) rfl) ?_
                        refine st rfl rfl rfl (yv_move rfl rfl) ?_
                        refine sk rfl rfl rfl ?_
                        refine sk rfl rfl rfl ?_
                        refine sk rfl rfl rfl ?_
                        refine sk rfl rfl rfl ?_
                        refine st rfl rfl rfl (yv_pick rfl rfl (fun _ => rfl) (fun _ => rfl) rfl) ?_
                        obtain rfl := nxt_e h3
                        refine rg_nil (hK _ ⟨true, (), rfl, leH_kn ⟨⟨_, rfl, (.refl _)⟩, ⟨_, rfl, (.refl _)⟩, ⟨_, rfl, (.refl _)⟩, ⟨_, rfl, (.refl _)⟩, ⟨_, rfl, (.refl _)⟩, ⟨_, rfl, (.refl _)⟩, trivial⟩ ⟨⟨_, rfl, (.refl _)⟩, ⟨_, rfl, (.refl _)⟩, trivial⟩⟩)
                      · intro hb; subst hb; replace h3 := cf h3
                        refine st rfl rfl rfl (yv_fieldAddr rfl fo66_5 rfl (.pt rfl rfl rfl) (.pt _ _ _ _ _)) ?_
                        refine st rfl rfl rfl (yv_load rfl sh22 rfl (.pt rfl rfl rfl) rfl) ?_
                        refine st rfl rfl rfl (yv_len_sl rfl Try.underlying22 rfl (lst_len _)) ?_
                        refine st rfl rfl rfl (yv_move rfl rfl) ?_
                        obtain ⟨x27, e27, h3⟩ := bnd_e h3
                        refine st rfl rfl rfl (yv_to (y := boo x27) (yv_neq rfl rfl rfl) (congrArg boo e27)) ?_
                        refine st rfl rfl rfl (yv_pick rfl rfl (fun _ => rfl) (fun _ => rfl) rfl) ?_
                        refine st rfl rfl rfl (yv_move rfl rfl) ?_
                        refine scases 102 rfl ?_ ?_
                        · intro hb; subst hb; replace h3 := ct h3
                          refine sk rfl rfl rfl ?_
                          refine sk rfl rfl rfl ?_
                          refine sk rfl rfl rfl ?_
                          refine sk rfl rfl rfl ?_
                          refine sk rfl rfl rfl ?_
                          refine st rfl rfl rfl (yv_pick rfl rfl (fun _ => rfl) (fun _ => rfl) rfl) ?_
                          refine st rfl rfl rfl (yv_move rfl rfl) ?_
                          refine sk rfl rfl rfl ?_
                          refine sk rfl rfl rfl ?_
                          refine sk rfl rfl rfl ?_
                          refine sk rfl rfl rfl ?_
                          refine st rfl rfl rfl (yv_pick rfl rfl (fun _ => rfl) (fun _ => rfl) rfl) ?_
                          obtain rfl := nxt_e h3
                          refine rg_nil (hK _ ⟨true, (), rfl, leH_kn ⟨⟨_, rfl, (.refl _)⟩, ⟨_, rfl, (.refl _)⟩, ⟨_, rfl, (.refl _)⟩, ⟨_, rfl, (.refl _)⟩, ⟨_, rfl, (.refl _)⟩, ⟨_, rfl, (.refl _)⟩, trivial⟩ ⟨⟨_, rfl, (.refl _)⟩, ⟨_, rfl, (.refl _)⟩, trivial⟩⟩)
                        · intro hb; subst hb; replace h3 := cf h3
                          refine st rfl rfl rfl (yv_fieldAddr rfl fo66_6 rfl (.pt rfl rfl rfl) (.pt _ _ _ _ _)) ?_
                          refine st rfl rfl rfl (yv_load rfl sh22 rfl (.pt rfl rfl rfl) rfl) ?_
                          refine st rfl rfl rfl (yv_len_sl rfl Try.underlying22 rfl (lst_len _)) ?_
                          refine st rfl rfl rfl (yv_move rfl rfl) ?_
                          obtain ⟨x28, e28, h3⟩ := bnd_e h3
                          refine st rfl rfl rfl (yv_to (y := boo x28) (yv_neq rfl rfl rfl) (congrArg boo e28)) ?_
                          refine st rfl rfl rfl (yv_pick rfl rfl (fun _ => rfl) (fun _ => rfl) rfl) ?_
                          refine st rfl rfl rfl (yv_move rfl rfl) ?_
                          refine scases 109 rfl ?_ ?_
                          · intro hb; subst hb; replace h3 := ct h3
                            refine sk rfl rfl rfl ?_
                            refine sk rfl rfl rfl ?_
                            refine sk rfl rfl rfl ?_
                            refine sk rfl rfl rfl ?_
                            refine st rfl rfl rfl (yv_pick rfl rfl (fun _ => rfl) (fun _ => rfl) rfl) ?_
                            obtain rfl := nxt_e h3
                            refine rg_nil (hK _ ⟨true, (), rfl, leH_kn ⟨⟨_, rfl, (.refl _)⟩, ⟨_, rfl, (.refl _)⟩, ⟨_, rfl, (.refl _)⟩, ⟨_, rfl, (.refl _)⟩, ⟨_, rfl, (.refl _)⟩, ⟨_, rfl, (.refl _)⟩, trivial⟩ ⟨⟨_, rfl, (.refl _)⟩, ⟨_, rfl, (.refl _)⟩, trivial⟩⟩)
                          · intro hb; subst hb; replace h3 := cf h3
                            refine st rfl rfl rfl (yv_fieldAddr rfl fo66_7 rfl (.pt rfl rfl rfl) (.pt _ _ _ _ _)) ?_
                            refine st rfl rfl rfl (yv_load rfl sh48 rfl (.pt rfl rfl rfl) rfl) ?_
                            refine st rfl rfl rfl (yv_len_sl rfl Try.underlying48 rfl (lst_len _)) ?_
                            obtain ⟨x29, e29, h3⟩ := bnd_e h3
                            refine st rfl rfl rfl (yv_to (y := boo x29) (yv_neq rfl rfl rfl) (congrArg boo e29)) ?_
                            refine st rfl rfl rfl (yv_pick rfl rfl (fun _ => rfl) (fun _ => rfl) rfl) ?_
                            obtain rfl := nxt_e h3
                            refine rg_nil (hK _ ⟨x29, (), rfl, leH_kn ⟨⟨_, rfl, (.refl _)⟩, ⟨_, rfl, (.refl _)⟩, ⟨_, rfl, (.refl _)⟩, ⟨_, rfl, (.refl _)⟩, ⟨_, rfl, (.refl _)⟩, ⟨_, rfl, (.refl _)⟩, trivial⟩ ⟨⟨_, rfl, (.refl _)⟩, ⟨_, rfl, (.refl _)⟩, trivial⟩⟩)
            · rintro y2_1 _ rfl
              refine c_show ⟨kn [(2, boo false), (4, .pt 2 v5 0 0), (6, int (x2.Weights.length : Int)), (7, int y1_1), (8, .pt 3 v19 0 0), (114, boo y2_1)], hk [(2, ⟨53, 10, true, true, v5, [[int x4.1.Master.Entities, int x4.1.Master.Periods, lst 1 fI x4.1.Master.Weights, lst 1 (fL 1 fI) x4.1.Master.Methods, lst 1 (fL 1 fI) x4.1.Master.Costs, lst 8 GEnt.av x4.1.Ents, lst 8 GReceipt.av x4.1.Receipts, lst 9 GSale.av x4.1.Sales, lst 6 GTransit.av x4.1.Transits, int x4.1.Done]]⟩), (3, ⟨66, 8, true, true, v19, [[int x18.Now, boo x18.Closed, lst 4 GPool.av x18.Pools, lst 1 fI x18.Bal, lst 11 GRoll.av x18.Rolls, lst 1 fI x18.Prices, lst 1 fI x18.Down, lst 8 GEnt.av x18.Ahead]]⟩)]⟩ ?_
              refine c_if (b := y2_1) rfl ?_ ?_
              · intro hb; subst hb; replace h2 := ct h2
                refine c_seq ?_
                refine c_reg ?_; intro K hK
                refine st rfl rfl rfl (yv_assign rfl rfl) ?_
                refine rg_nil (hK _ ?_)
                obtain ⟨c30, hX, hj⟩ := esc_e h2; subst hj; replace h1 := hX.trans (sel_r h1)
                obtain ⟨c31, hX, hj⟩ := esc_e h1; subst hj; replace h0 := hX.trans (sel_r h0)
                obtain rfl := nxt_e h0
                refine c_ret (br5 _ (jr4 _ (lr3 _ (br2 _ (jr1 _ (hret _ _ _ (.tmp rfl .nil) (fun _ _ h => h) ?_))))))
                exact .refl _
              · intro hb; subst hb; replace h2 := cf h2
                refine c_skip ?_
                refine c_seq ?_
                refine c_seq ?_
                refine c_reg ?_; intro K hK
                refine st rfl rfl rfl (yv_assign rfl rfl) ?_
                refine rg_nil (hK _ ?_)
                obtain ⟨j32, h3, h2⟩ := bind_e h2
                refine c_joinL (fun (a : Unit) (k : Unit) => ⟨kn [(2, boo false), (4, .pt 2 v5 0 0), (6, int (x2.Weights.length : Int)), (7, int y1_1), (8, .pt 3 v19 0 0)], hk [(2, ⟨53, 10, true, true, v5, [[int x4.1.Master.Entities, int x4.1.Master.Periods, lst 1 fI x4.1.Master.Weights, lst 1 (fL 1 fI) x4.1.Master.Methods, lst 1 (fL 1 fI) x4.1.Master.Costs, lst 8 GEnt.av x4.1.Ents, lst 8 GReceipt.av x4.1.Receipts, lst 9 GSale.av x4.1.Sales, lst 6 GTransit.av x4.1.Transits, int x4.1.Done]]⟩), (3, ⟨66, 8, true, true, v19, [[int x18.Now, boo x18.Closed, lst 4 GPool.av x18.Pools, lst 1 fI x18.Bal, lst 11 GRoll.av x18.Rolls, lst 1 fI x18.Prices, lst 1 fI x18.Down, lst 8 GEnt.av x18.Ahead]]⟩)]⟩) (fun a => j32 = .inl a) ?_ ?_
                · intro Q6 jn6 jx6 jr6
                  refine c_block ?_; intro Q7 bn7 bx7 br7 bo7
                  refine c_loopD (fun (a : Int) (k : Unit) => ⟨kn [(2, boo false), (4, .pt 2 v5 0 0), (6, int (x2.Weights.length : Int)), (7, int y1_1), (8, .pt 3 v19 0 0), (9, int a)], hk [(2, ⟨53, 10, true, true, v5, [[int x4.1.Master.Entities, int x4.1.Master.Periods, lst 1 fI x4.1.Master.Weights, lst 1 (fL 1 fI) x4.1.Master.Methods, lst 1 (fL 1 fI) x4.1.Master.Costs, lst 8 GEnt.av x4.1.Ents, lst 8 GReceipt.av x4.1.Receipts, lst 9 GSale.av x4.1.Sales, lst 6 GTransit.av x4.1.Transits, int x4.1.Done]]⟩), (3, ⟨66, 8, true, true, v19, [[int x18.Now, boo x18.Closed, lst 4 GPool.av x18.Pools, lst 1 fI x18.Bal, lst 11 GRoll.av x18.Rolls, lst 1 fI x18.Prices, lst 1 fI x18.Down, lst 8 GEnt.av x18.Ahead]]⟩)]⟩) (fun n (a : Int) => d_law04_MasterStarts_L1 x2 x18 n a) (0 : Int) () h3 (fun _ => rfl)
                    (leH_kn ⟨⟨_, rfl, (.refl _)⟩, ⟨_, rfl, (.refl _)⟩, ⟨_, rfl, (.refl _)⟩, ⟨_, rfl, (.refl _)⟩, ⟨_, rfl, (.refl _)⟩, ⟨_, rfl, (.refl _)⟩, trivial⟩ ⟨⟨_, rfl, (.refl _)⟩, ⟨_, rfl, (.refl _)⟩, trivial⟩) ?_
                  rintro n y3_1 _ hm h3 Q8 ln8 lx8 lr8
                  replace h3 : d_law04_MasterStarts_L1 x2 x18 (n + 1) y3_1 = some _ := h3
                  rw [d_law04_MasterStarts_L1] at h3
                  refine c_show ⟨kn [(2, boo false), (4, .pt 2 v5 0 0), (6, int (x2.Weights.length : Int)), (7, int y1_1), (8, .pt 3 v19 0 0), (9, int y3_1)], hk [(2, ⟨53, 10, true, true, v5, [[int x4.1.Master.Entities, int x4.1.Master.Periods, lst 1 fI x4.1.Master.Weights, lst 1 (fL 1 fI) x4.1.Master.Methods, lst 1 (fL 1 fI) x4.1.Master.Costs, lst 8 GEnt.av x4.1.Ents, lst 8 GReceipt.av x4.1.Receipts, lst 9 GSale.av x4.1.Sales, lst 6 GTransit.av x4.1.Transits, int x4.1.Done]]⟩), (3, ⟨66, 8, true, true, v19, [[int x18.Now, boo x18.Closed, lst 4 GPool.av x18.Pools, lst 1 fI x18.Bal, lst 11 GRoll.av x18.Rolls, lst 1 fI x18.Prices, lst 1 fI x18.Down, lst 8 GEnt.av x18.Ahead]]⟩)]⟩ ?_
                  refine c_seq ?_
                  refine c_seq ?_
                  refine c_reg ?_; intro K hK
                  refine st rfl rfl rfl (yv_move rfl rfl) ?_
                  refine st rfl rfl rfl (yv_move rfl rfl) ?_
                  obtain ⟨x33, e33, h3⟩ := bnd_e h3
                  refine st rfl rfl rfl (yv_to (y := boo x33) (yv_lss rfl rfl rfl) (congrArg boo e33)) ?_
                  refine rg_nil (hK _ ?_)
                  refine c_if (b := x33) rfl ?_ ?_
                  · intro hb; subst hb; replace h3 := ct h3
                    refine c_skip ?_
                    refine c_seq ?_
                    refine c_block ?_; intro Q9 bn9 bx9 br9 bo9
                    refine c_seq ?_
                    obtain ⟨j34, h4, h3⟩ := bind_e h3
                    refine c_drawEL [0, 1, 0, 7, 15, 31, 63, 127, 255, 127, 1023, 2047, 4095, 8191, 16383, 32767, 65535, 32767, 262143, 524287, 32767, 2097151, 4194303, 8388607, 16777215, 33554431, 16777215, 83886079, 268435455, 536870911, 1073741823, 2147483647, 16777215, 4311744511, 16777215, 17196646399, 51556384767, 133160763391, 270599716863, 545477623807, 1095233437695, 2199023255551, 4398046511103, 8796093022207] (fun i => bif Nat.beq i 0 then ([3]) else bif Nat.beq i 1 then ([3]) else bif Nat.beq i 7 then ([3]) else bif Nat.beq i 8 then ([3]) else bif Nat.beq i 15 then ([3]) else bif Nat.beq i 16 then ([3]) else bif Nat.beq i 24 then ([3]) else bif Nat.beq i 25 then ([3]) else bif Nat.beq i 32 then ([3]) else bif Nat.beq i 33 then ([3]) else []) (fun i => [3]) (fun i => true) [0, 1, 2, 3, 4, 5, 6, 7, 8, 9, 10, 11, 12, 13, 14, 15, 16, 17, 18, 19, 20, 21, 22, 23, 24, 25, 26, 27, 28, 29, 30, 31, 32, 33, 34, 35, 36, 37, 38, 39, 40, 41, 42, 43] (fun (a : Bool) (k : Unit) => ⟨kn [(2, boo false), (4, .pt 2 v5 0 0), (6, int (x2.Weights.length : Int)), (7, int y1_1), (8, .pt 3 v19 0 0), (9, int y3_1), (163, boo a)], hk [(2, ⟨53, 10, true, true, v5, [[int x4.1.Master.Entities, int x4.1.Master.Periods, lst 1 fI x4.1.Master.Weights, lst 1 (fL 1 fI) x4.1.Master.Methods, lst 1 (fL 1 fI) x4.1.Master.Costs, lst 8 GEnt.av x4.1.Ents, lst 8 GReceipt.av x4.1.Receipts, lst 9 GSale.av x4.1.Sales, lst 6 GTransit.av x4.1.Transits, int x4.1.Done]]⟩), (3, ⟨66, 8, true, true, v19, [[int x18.Now, boo x18.Closed, lst 4 GPool.av x18.Pools, lst 1 fI x18.Bal, lst 11 GRoll.av x18.Rolls, lst 1 fI x18.Prices, lst 1 fI x18.Down, lst 8 GEnt.av x18.Ahead]]⟩)]⟩) (fun a => a = j34) mixed (by kernel_rfl) ?_ ?_
                    · intro K hK
                      refine de_pure rfl rfl rfl rfl (fun H hH => yv_fieldAddr rfl fo66_5 rfl (.pt ((hH _ (by decide)).trans rfl) rfl rfl) (.pt _ _ _ _ _)) ?_
                      refine de_pure rfl rfl rfl rfl (fun H hH => yv_load rfl sh22 rfl (.pt ((hH _ (by decide)).trans rfl) rfl rfl) rfl) ?_
                      refine de_pure rfl rfl rfl rfl (fun H hH => yv_move rfl rfl) ?_
                      obtain ⟨x35, e35, h4⟩ := bind_e h4
                      refine de_pure rfl rfl rfl rfl (fun H hH => yv_ixT rfl Try.underlying22 sh3 rfl rfl e35) ?_
                      refine de_pure rfl rfl rfl rfl (fun H hH => yv_load rfl sh3 rfl (.pp _) rfl) ?_
                      obtain ⟨x36, e36, h4⟩ := bnd_e h4
                      refine de_pure rfl rfl rfl rfl (fun H hH => yv_to (y := boo x36) (yv_neq rfl rfl rfl) (congrArg boo e36)) ?_
                      refine de_pure rfl rfl rfl rfl (fun H hH => yv_move rfl rfl) ?_
                      refine de_cases (b := x36) 126 rfl ?_ ?_
                      · intro hb; subst hb; replace h4 := ct h4
                        refine de_skip rfl rfl rfl ?_
                        refine de_skip rfl rfl rfl ?_
                        refine de_skip rfl rfl rfl ?_
                        refine de_skip rfl rfl rfl ?_
                        refine de_skip rfl rfl rfl ?_
                        refine de_skip rfl rfl rfl ?_
                        refine de_pure rfl rfl rfl rfl (fun H hH => yv_pick rfl rfl (fun _ => rfl) (fun _ => rfl) rfl) ?_
                        refine de_pure rfl rfl rfl rfl (fun H hH => yv_move rfl rfl) ?_
                        refine de_skip rfl rfl rfl ?_
                        refine de_skip rfl rfl rfl ?_
                        refine de_skip rfl rfl rfl ?_
                        refine de_skip rfl rfl rfl ?_
                        refine de_skip rfl rfl rfl ?_
                        refine de_skip rfl rfl rfl ?_
                        refine de_skip rfl rfl rfl ?_
                        refine de_pure rfl rfl rfl rfl (fun H hH => yv_pick rfl rfl (fun _ => rfl) (fun _ => rfl) rfl) ?_
                        refine de_pure rfl rfl rfl rfl (fun H hH => yv_move rfl rfl) ?_
                        refine de_skip rfl rfl rfl ?_
                        refine de_skip rfl rfl rfl ?_
                        refine de_skip rfl rfl rfl ?_
                        refine de_skip rfl rfl rfl ?_
                        refine de_skip rfl rfl rfl ?_
                        refine de_skip rfl rfl rfl ?_
                        refine de_skip rfl rfl rfl ?_
                        refine de_skip rfl rfl rfl ?_
                        refine de_skip rfl rfl rfl ?_
                        refine de_skip rfl rfl rfl ?_
                        refine de_skip rfl rfl rfl ?_
                        refine de_skip rfl rfl rfl ?_
                        refine de_skip rfl rfl rfl ?_
                        refine de_skip rfl rfl rfl ?_
                        refine de_skip rfl rfl rfl ?_
                        refine de_skip rfl rfl rfl ?_
                        refine de_skip rfl rfl rfl ?_
                        refine de_skip rfl rfl rfl ?_
                        refine de_skip rfl rfl rfl ?_
                        refine de_pure rfl rfl rfl rfl (fun H hH => yv_pick rfl rfl (fun _ => rfl) (fun _ => rfl) rfl) ?_
                        obtain rfl := nxt_e h4
                        refine de_nil (hK _ ⟨true, (), rfl, leH_kn ⟨⟨_, rfl, (.refl _)⟩, ⟨_, rfl, (.refl _)⟩, ⟨_, rfl, (.refl _)⟩, ⟨_, rfl, (.refl _)⟩, ⟨_, rfl, (.refl _)⟩, ⟨_, rfl, (.refl _)⟩, ⟨_, rfl, (.refl _)⟩, trivial⟩ ⟨⟨_, rfl, (.refl _)⟩, ⟨_, rfl, (.refl _)⟩, trivial⟩⟩)
                      · intro hb; subst hb; replace h4 := cf h4
                        refine de_pure rfl rfl rfl rfl (fun H hH => yv_fieldAddr rfl fo66_6 rfl (.pt ((hH _ (by decide)).trans rfl) rfl rfl) (.pt _ _ _ _ _)) ?_
                        refine de_pure rfl rfl rfl rfl (fun H hH => yv_load rfl sh22 rfl (.pt ((hH _ (by decide)).trans rfl) rfl rfl) rfl) ?_
                        refine de_pure rfl rfl rfl rfl (fun H hH => yv_move rfl rfl) ?_
                        obtain ⟨x37, e37, h4⟩ := bind_e h4
                        refine de_pure rfl rfl rfl rfl (fun H hH => yv_ixT rfl Try.underlying22 sh3 rfl rfl e37) ?_
                        refine de_pure rfl rfl rfl rfl (fun H hH => yv_load rfl sh3 rfl (.pp _) rfl) ?_
                        obtain ⟨x38, e38, h4⟩ := bnd_e h4
                        refine de_pure rfl rfl rfl rfl (fun H hH => yv_to (y := boo x38) (yv_neq rfl rfl rfl) (congrArg boo e38)) ?_
                        refine de_pure rfl rfl rfl rfl (fun H hH => yv_pick rfl rfl (fun _ => rfl) (fun _ => rfl) rfl) ?_
                        refine de_pure rfl rfl rfl rfl (fun H hH => yv_move rfl rfl) ?_
                        refine de_cases (b := x38) 134 rfl ?_ ?_
                        · intro hb; subst hb; replace h4 := ct h4
                          refine de_skip rfl rfl rfl ?_
                          refine de_skip rfl rfl rfl ?_
                          refine de_skip rfl rfl rfl ?_
                          refine de_skip rfl rfl rfl ?_
                          refine de_skip rfl rfl rfl ?_
                          refine de_skip rfl rfl rfl ?_
                          refine de_skip rfl rfl rfl ?_
                          refine de_pure rfl rfl rfl rfl (fun H hH => yv_pick rfl rfl (fun _ => rfl) (fun _ => rfl) rfl) ?_
                          refine de_pure rfl rfl rfl rfl (fun H hH => yv_move rfl rfl) ?_
                          refine de_skip rfl rfl rfl ?_
                          refine de_skip rfl rfl rfl ?_
                          refine de_skip rfl rfl rfl ?_
                          refine de_skip rfl rfl rfl ?_
                          refine de_skip rfl rfl rfl ?_
                          refine de_skip rfl rfl rfl ?_
                          refine de_skip rfl rfl rfl ?_
                          refine de_skip rfl rfl rfl ?_
                          refine de_skip rfl rfl rfl ?_
                          refine de_skip rfl rfl rfl ?_
                          refine de_skip rfl rfl rfl ?_
                          refine de_skip rfl rfl rfl ?_
                          refine de_skip rfl rfl rfl ?_
                          refine de_skip rfl rfl rfl ?_
                          refine de_skip rfl rfl rfl ?_
                          refine de_skip rfl rfl rfl ?_
                          refine de_skip rfl rfl rfl ?_
                          refine de_skip rfl rfl rfl ?_
                          refine de_skip rfl rfl rfl ?_
                          refine de_pure rfl rfl rfl rfl (fun H hH => yv_pick rfl rfl (fun _ => rfl) (fun _ => rfl) rfl) ?_
                          obtain rfl := nxt_e h4
                          refine de_nil (hK _ ⟨true, (), rfl, leH_kn ⟨⟨_, rfl, (.refl _)⟩, ⟨_, rfl, (.refl _)⟩, ⟨_, rfl, (.refl _)⟩, ⟨_, rfl, (.refl _)⟩, ⟨_, rfl, (.refl _)⟩, ⟨_, rfl, (.refl _)⟩, ⟨_, rfl, (.refl _)⟩, trivial⟩ ⟨⟨_, rfl, (.refl _)⟩, ⟨_, rfl, (.refl _)⟩, trivial⟩⟩)
                        · intro hb; subst hb; replace h4 := cf h4
                          refine de_pure rfl rfl rfl rfl (fun H hH => yv_fieldAddr rfl fo66_4 rfl (.pt ((hH _ (by decide)).trans rfl) rfl rfl) (.pt _ _ _ _ _)) ?_
                          refine de_pure rfl rfl rfl rfl (fun H hH => yv_load rfl sh64 rfl (.pt ((hH _ (by decide)).trans rfl) rfl rfl) rfl) ?_
                          refine de_pure rfl rfl rfl rfl (fun H hH => yv_move rfl rfl) ?_
                          obtain ⟨x39, e39, h4⟩ := bind_e h4
                          refine de_pure rfl rfl rfl rfl (fun H hH => yv_ixT rfl Try.underlying64 sh68 rfl rfl e39) ?_
                          refine de_pure rfl rfl rfl rfl (fun H hH => yv_load rfl sh68 rfl (.pp _) rfl) ?_
                          refine de_pure rfl rfl rfl rfl (fun H hH => yv_build (cs := [int 0, int 0, int 0, int 0, int 0, int 0, int 0, int 0, int 0, int 0, int 0]) (ps := []) rfl pl68 z68 rfl .nil (by kernel_rfl)) ?_
                          obtain ⟨x40, e40, h4⟩ := bnd_e h4
                          refine de_pure rfl rfl rfl rfl (fun H hH => yv_aneq (r' := x40) rfl fl68 rfl rfl (.cons (.int Try.underlying3) sh3 (.cons (.int Try.underlying3) sh3 (.cons (.int Try.underlying3) sh3 (.cons (.int Try.underlying3) sh3 (.cons (.int Try.underlying3) sh3 (.cons (.int Try.underlying3) sh3 (.cons (.int Try.underlying3) sh3 (.cons (.int Try.underlying3) sh3 (.cons (.int Try.underlying3) sh3 (.cons (.int Try.underlying3) sh3 (.cons (.int Try.underlying3) sh3 (.nil _)))))))))))) ((congrArg Bool.not (GRoll.eqv (x39 : GRoll) ((⟨0, 0, 0, 0, 0, 0, 0, 0, 0, 0, 0⟩ : GRoll) : GRoll))).trans e40)) ?_
                          refine de_pure rfl rfl rfl rfl (fun H hH => yv_pick rfl rfl (fun _ => rfl) (fun _ => rfl) rfl) ?_
                          refine de_pure rfl rfl rfl rfl (fun H hH => yv_move rfl rfl) ?_
                          refine de_cases (b := x40) 143 rfl ?_ ?_
                          · intro hb; subst hb; replace h4 := ct h4
                            refine de_skip rfl rfl rfl ?_
                            refine de_skip rfl rfl rfl ?_
                            refine de_skip rfl rfl rfl ?_
                            refine de_skip rfl rfl rfl ?_
                            refine de_skip rfl rfl rfl ?_
                            refine de_skip rfl rfl rfl ?_
                            refine de_skip rfl rfl rfl ?_
                            refine de_skip rfl rfl rfl ?_
                            refine de_skip rfl rfl rfl ?_
                            refine de_skip rfl rfl rfl ?_
                            refine de_skip rfl rfl rfl ?_
                            refine de_skip rfl rfl rfl ?_
                            refine de_skip rfl rfl rfl ?_
                            refine de_skip rfl rfl rfl ?_
                            refine de_skip rfl rfl rfl ?_
                            refine de_skip rfl rfl rfl ?_
                            refine de_skip rfl rfl rfl ?_
                            refine de_skip rfl rfl rfl ?_
                            refine de_skip rfl rfl rfl ?_
                            refine de_pure rfl rfl rfl rfl (fun H hH => yv_pick rfl rfl (fun _ => rfl) (fun _ => rfl) rfl) ?_
                            obtain rfl := nxt_e h4
                            refine de_nil (hK _ ⟨true, (), rfl, leH_kn ⟨⟨_, rfl, (.refl _)⟩, ⟨_, rfl, (.refl _)⟩, ⟨_, rfl, (.refl _)⟩, ⟨_, rfl, (.refl _)⟩, ⟨_, rfl, (.refl _)⟩, ⟨_, rfl, (.refl _)⟩, ⟨_, rfl, (.refl _)⟩, trivial⟩ ⟨⟨_, rfl, (.refl _)⟩, ⟨_, rfl, (.refl _)⟩, trivial⟩⟩)
                          · intro hb; subst hb; replace h4 := cf h4
                            refine de_pure rfl rfl rfl rfl (fun H hH => yv_fieldAddr rfl fo66_2 rfl (.pt ((hH _ (by decide)).trans rfl) rfl rfl) (.pt _ _ _ _ _)) ?_
                            refine de_pure rfl rfl rfl rfl (fun H hH => yv_load rfl sh63 rfl (.pt ((hH _ (by decide)).trans rfl) rfl rfl) rfl) ?_
                            refine de_pure rfl rfl rfl rfl (fun H hH => yv_move rfl rfl) ?_
                            obtain ⟨x41, e41, h4⟩ := bnd_e h4
                            refine de_pure rfl rfl rfl rfl (fun H hH => yv_mul rfl rfl rfl e41) ?_
                            obtain ⟨x42, e42, h4⟩ := bind_e h4
                            refine de_pure rfl rfl rfl rfl (fun H hH => yv_ixT rfl Try.underlying63 sh72 rfl rfl e42) ?_
                            refine de_pure rfl rfl rfl rfl (fun H hH => yv_fieldAddr rfl fo72_0 rfl (.pp _) (.pp _ _)) ?_
                            refine de_pure rfl rfl rfl rfl (fun H hH => yv_load rfl sh69 rfl (.pp _) rfl) ?_
                            refine de_pure rfl rfl rfl rfl (fun H hH => yv_len_sl rfl Try.underlying69 rfl (lst_len _)) ?_
                            refine de_pure rfl rfl rfl rfl (fun H hH => yv_fieldAddr rfl fo66_2 rfl (.pt ((hH _ (by decide)).trans rfl) rfl rfl) (.pt _ _ _ _ _)) ?_
                            refine de_pure rfl rfl rfl rfl (fun H hH => yv_load rfl sh63 rfl (.pt ((hH _ (by decide)).trans rfl) rfl rfl) rfl) ?_
                            refine de_pure rfl rfl rfl rfl (fun H hH => yv_move rfl rfl) ?_
                            obtain ⟨x43, e43, h4⟩ := bnd_e h4
                            refine de_pure rfl rfl rfl rfl (fun H hH => yv_mul rfl rfl rfl e43) ?_
                            obtain ⟨x44, e44, h4⟩ := bnd_e h4
                            refine de_pure rfl rfl rfl rfl (fun H hH => yv_add rfl rfl rfl e44) ?_
                            obtain ⟨x45, e45, h4⟩ := bind_e h4
                            refine de_pure rfl rfl rfl rfl (fun H hH => yv_ixT rfl Try.underlying63 sh72 rfl rfl e45) ?_
                            refine de_pure rfl rfl rfl rfl (fun H hH => yv_fieldAddr rfl fo72_0 rfl (.pp _) (.pp _ _)) ?_
                            refine de_pure rfl rfl rfl rfl (fun H hH => yv_load rfl sh69 rfl (.pp _) rfl) ?_
                            refine de_pure rfl rfl rfl rfl (fun H hH => yv_len_sl rfl Try.underlying69 rfl (lst_len _)) ?_
                            obtain ⟨x46, e46, h4⟩ := bnd_e h4
                            refine de_pure rfl rfl rfl rfl (fun H hH => yv_add rfl rfl rfl e46) ?_
                            obtain ⟨x47, e47, h4⟩ := bnd_e h4
                            refine de_pure rfl rfl rfl rfl (fun H hH => yv_to (y := boo x47) (yv_neq rfl rfl rfl) (congrArg boo e47)) ?_
                            refine de_pure rfl rfl rfl rfl (fun H hH => yv_pick rfl rfl (fun _ => rfl) (fun _ => rfl) rfl) ?_
                            obtain rfl := nxt_e h4
                            refine de_nil (hK _ ⟨x47, (), rfl, leH_kn ⟨⟨_, rfl, (.refl _)⟩, ⟨_, rfl, (.refl _)⟩, ⟨_, rfl, (.refl _)⟩, ⟨_, rfl, (.refl _)⟩, ⟨_, rfl, (.refl _)⟩, ⟨_, rfl, (.refl _)⟩, ⟨_, rfl, (.refl _)⟩, trivial⟩ ⟨⟨_, rfl, (.refl _)⟩, ⟨_, rfl, (.refl _)⟩, trivial⟩⟩)
                    · rintro y4_1 _ rfl
                      refine c_show ⟨kn [(2, boo false), (4, .pt 2 v5 0 0), (6, int (x2.Weights.length : Int)), (7, int y1_1), (8, .pt 3 v19 0 0), (9, int y3_1), (163, boo y4_1)], hk [(2, ⟨53, 10, true, true, v5, [[int x4.1.Master.Entities, int x4.1.Master.Periods, lst 1 fI x4.1.Master.Weights, lst 1 (fL 1 fI) x4.1.Master.Methods, lst 1 (fL 1 fI) x4.1.Master.Costs, lst 8 GEnt.av x4.1.Ents, lst 8 GReceipt.av x4.1.Receipts, lst 9 GSale.av x4.1.Sales, lst 6 GTransit.av x4.1.Transits, int x4.1.Done]]⟩), (3, ⟨66, 8, true, true, v19, [[int x18.Now, boo x18.Closed, lst 4 GPool.av x18.Pools, lst 1 fI x18.Bal, lst 11 GRoll.av x18.Rolls, lst 1 fI x18.Prices, lst 1 fI x18.Down, lst 8 GEnt.av x18.Ahead]]⟩)]⟩ ?_
                      refine c_if (b := y4_1) rfl ?_ ?_
                      · intro hb; subst hb; replace h3 := ct h3
                        refine c_seq ?_
                        refine c_reg ?_; intro K hK
                        refine st rfl rfl rfl (yv_assign rfl rfl) ?_
                        refine rg_nil (hK _ ?_)
                        obtain ⟨c48, hX, hj⟩ := esc_e h3; subst hj; replace h2 := hX.trans (sel_r h2)
                        obtain ⟨c49, hX, hj⟩ := esc_e h2; subst hj; replace h1 := hX.trans (sel_r h1)
                        obtain ⟨c50, hX, hj⟩ := esc_e h1; subst hj; replace h0 := hX.trans (sel_r h0)
                        obtain rfl := nxt_e h0
                        refine c_ret (br9 _ (lr8 _ (br7 _ (jr6 _ (br5 _ (jr4 _ (lr3 _ (br2 _ (jr1 _ (hret _ _ _ (.tmp rfl .nil) (fun _ _ h => h) ?_))))))))))
                        exact .refl _
                      · intro hb; subst hb; replace h3 := cf h3
                        refine c_skip ?_
                        refine c_nil (bn9 _ ?_)
                        refine c_reg ?_; intro K hK
                        refine st rfl rfl rfl (yv_move rfl rfl) ?_
                        obtain ⟨x51, e51, h3⟩ := bnd_e h3
                        refine st rfl rfl rfl (yv_add rfl rfl rfl e51) ?_
                        refine st rfl rfl rfl (yv_assign rfl rfl) ?_
                        refine rg_nil (hK _ ?_)
                        refine c_nil (ln8 _ ⟨x51, (), h3, leH_kn ⟨⟨_, rfl, (.refl _)⟩, ⟨_, rfl, (.refl _)⟩, ⟨_, rfl, (.refl _)⟩, ⟨_, rfl, (.refl _)⟩, ⟨_, rfl, (.refl _)⟩, ⟨_, rfl, (.refl _)⟩, trivial⟩ ⟨⟨_, rfl, (.refl _)⟩, ⟨_, rfl, (.refl _)⟩, trivial⟩⟩)
                  · intro hb; subst hb; replace h3 := cf h3
                    refine c_exit (lx8 _ _ (bx7 _ ?_))
                    obtain rfl := brk_e h3
                    refine c_nil (jn6 _ ⟨(), (), rfl, leH_kn ⟨⟨_, rfl, (.refl _)⟩, ⟨_, rfl, (.refl _)⟩, ⟨_, rfl, (.refl _)⟩, ⟨_, rfl, (.refl _)⟩, ⟨_, rfl, (.refl _)⟩, trivial⟩ ⟨⟨_, rfl, (.refl _)⟩, ⟨_, rfl, (.refl _)⟩, trivial⟩⟩)
                · rintro _ _ rfl
                  replace h2 := sel_l h2
                  refine c_show ⟨kn [(2, boo false), (4, .pt 2 v5 0 0), (6, int (x2.Weights.length : Int)), (7, int y1_1), (8, .pt 3 v19 0 0)], hk [(2, ⟨53, 10, true, true, v5, [[int x4.1.Master.Entities, int x4.1.Master.Periods, lst 1 fI x4.1.Master.Weights, lst 1 (fL 1 fI) x4.1.Master.Methods, lst 1 (fL 1 fI) x4.1.Master.Costs, lst 8 GEnt.av x4.1.Ents, lst 8 GReceipt.av x4.1.Receipts, lst 9 GSale.av x4.1.Sales, lst 6 GTransit.av x4.1.Transits, int x4.1.Done]]⟩), (3, ⟨66, 8, true, true, v19, [[int x18.Now, boo x18.Closed, lst 4 GPool.av x18.Pools, lst 1 fI x18.Bal, lst 11 GRoll.av x18.Rolls, lst 1 fI x18.Prices, lst 1 fI x18.Down, lst 8 GEnt.av x18.Ahead]]⟩)]⟩ ?_
                  refine c_seq ?_
                  refine c_reg ?_; intro K hK
                  refine st rfl rfl rfl (yv_assign rfl rfl) ?_
                  refine rg_nil (hK _ ?_)
                  obtain ⟨j52, h3, h2⟩ := bind_e h2
                  refine c_joinL (fun (a : Unit) (k : Unit) => ⟨kn [(2, boo false), (4, .pt 2 v5 0 0), (6, int (x2.Weights.length : Int)), (7, int y1_1)], hk [(2, ⟨53, 10, true, true, v5, [[int x4.1.Master.Entities, int x4.1.Master.Periods, lst 1 fI x4.1.Master.Weights, lst 1 (fL 1 fI) x4.1.Master.Methods, lst 1 (fL 1 fI) x4.1.Master.Costs, lst 8 GEnt.av x4.1.Ents, lst 8 GReceipt.av x4.1.Receipts, lst 9 GSale.av x4.1.Sales, lst 6 GTransit.av x4.1.Transits, int x4.1.Done]]⟩)]⟩) (fun a => j52 = .inl a) ?_ ?_
                  · intro Q6 jn6 jx6 jr6
                    refine c_block ?_; intro Q7 bn7 bx7 br7 bo7
                    refine c_loopD (fun (a : Int) (k : Unit) => ⟨kn [(2, boo false), (4, .pt 2 v5 0 0), (6, int (x2.Weights.length : Int)), (7, int y1_1), (8, .pt 3 v19 0 0), (10, int a)], hk [(2, ⟨53, 10, true, true, v5, [[int x4.1.Master.Entities, int x4.1.Master.Periods, lst 1 fI x4.1.Master.Weights, lst 1 (fL 1 fI) x4.1.Master.Methods, lst 1 (fL 1 fI) x4.1.Master.Costs, lst 8 GEnt.av x4.1.Ents, lst 8 GReceipt.av x4.1.Receipts, lst 9 GSale.av x4.1.Sales, lst 6 GTransit.av x4.1.Transits, int x4.1.Done]]⟩), (3, ⟨66, 8, true, true, v19, [[int x18.Now, boo x18.Closed, lst 4 GPool.av x18.Pools, lst 1 fI x18.Bal, lst 11 GRoll.av x18.Rolls, lst 1 fI x18.Prices, lst 1 fI x18.Down, lst 8 GEnt.av x18.Ahead]]⟩)]⟩) (fun n (a : Int) => d_law04_MasterStarts_L2 x18 n a) (0 : Int) () h3 (fun _ => rfl)
                      (leH_kn ⟨⟨_, rfl, (.refl _)⟩, ⟨_, rfl, (.refl _)⟩, ⟨_, rfl, (.refl _)⟩, ⟨_, rfl, (.refl _)⟩, ⟨_, rfl, (.refl _)⟩, ⟨_, rfl, (.refl _)⟩, trivial⟩ ⟨⟨_, rfl, (.refl _)⟩, ⟨_, rfl, (.refl _)⟩, trivial⟩) ?_
                    rintro n y6_1 _ hm h3 Q8 ln8 lx8 lr8
                    replace h3 : d_law04_MasterStarts_L2 x18 (n + 1) y6_1 = some _ := h3
                    rw [d_law04_MasterStarts_L2] at h3
                    refine c_show ⟨kn [(2, boo false), (4, .pt 2 v5 0 0), (6, int (x2.Weights.length : Int)), (7, int y1_1), (8, .pt 3 v19 0 0), (10, int y6_1)], hk [(2, ⟨53, 10, true, true, v5, [[int x4.1.Master.Entities, int x4.1.Master.Periods, lst 1 fI x4.1.Master.Weights, lst 1 (fL 1 fI) x4.1.Master.Methods, lst 1 (fL 1 fI) x4.1.Master.Costs, lst 8 GEnt.av x4.1.Ents, lst 8 GReceipt.av x4.1.Receipts, lst 9 GSale.av x4.1.Sales, lst 6 GTransit.av x4.1.Transits, int x4.1.Done]]⟩), (3, ⟨66, 8, true, true, v19, [[int x18.Now, boo x18.Closed, lst 4 GPool.av x18.Pools, lst 1 fI x18.Bal, lst 11 GRoll.av x18.Rolls, lst 1 fI x18.Prices, lst 1 fI x18.Down, lst 8 GEnt.av x18.Ahead]]⟩)]⟩ ?_
                    refine c_seq ?_
                    refine c_seq ?_
                    refine c_reg ?_; intro K hK
                    refine st rfl rfl rfl (yv_move rfl rfl) ?_
                    obtain ⟨x53, e53, h3⟩ := bnd_e h3
                    refine st rfl rfl rfl (yv_to (y := boo x53) (yv_lss rfl rfl rfl) (congrArg boo e53)) ?_
                    refine rg_nil (hK _ ?_)
                    refine c_if (b := x53) rfl ?_ ?_
                    · intro hb; subst hb; replace h3 := ct h3
                      refine c_skip ?_
                      refine c_seq ?_
                      refine c_block ?_; intro Q9 bn9 bx9 br9 bo9
                      refine c_seq ?_
                      refine c_reg ?_; intro K hK
                      refine st rfl rfl rfl (yv_fieldAddr rfl fo66_3 rfl (.pt rfl rfl rfl) (.pt _ _ _ _ _)) ?_
                      refine st rfl rfl rfl (yv_load rfl sh22 rfl (.pt rfl rfl rfl) rfl) ?_
                      refine st rfl rfl rfl (yv_move rfl rfl) ?_
                      obtain ⟨x54, e54, h3⟩ := bind_e h3
                      refine st rfl rfl rfl (yv_ixT rfl Try.underlying22 sh3 rfl rfl e54) ?_
                      refine st rfl rfl rfl (yv_load rfl sh3 rfl (.pp _) rfl) ?_
                      obtain ⟨x55, e55, h3⟩ := bnd_e h3
                      refine st rfl rfl rfl (yv_to (y := boo x55) (yv_neq rfl rfl rfl) (congrArg boo e55)) ?_
                      refine rg_nil (hK _ ?_)
                      refine c_if (b := x55) rfl ?_ ?_
                      · intro hb; subst hb; replace h3 := ct h3
                        refine c_seq ?_
                        refine c_reg ?_; intro K hK
                        refine st rfl rfl rfl (yv_assign rfl rfl) ?_
                        refine rg_nil (hK _ ?_)
                        obtain ⟨c56, hX, hj⟩ := esc_e h3; subst hj; replace h2 := hX.trans (sel_r h2)
                        obtain ⟨c57, hX, hj⟩ := esc_e h2; subst hj; replace h1 := hX.trans (sel_r h1)
                        obtain ⟨c58, hX, hj⟩ := esc_e h1; subst hj; replace h0 := hX.trans (sel_r h0)
                        obtain rfl := nxt_e h0
                        refine c_ret (br9 _ (lr8 _ (br7 _ (jr6 _ (br5 _ (jr4 _ (lr3 _ (br2 _ (jr1 _ (hret _ _ _ (.tmp rfl .nil) (fun _ _ h => h) ?_))))))))))
                        exact .refl _
                      · intro hb; subst hb; replace h3 := cf h3
                        refine c_skip ?_
                        refine c_nil (bn9 _ ?_)
                        refine c_reg ?_; intro K hK
                        refine st rfl rfl rfl (yv_move rfl rfl) ?_
                        obtain ⟨x59, e59, h3⟩ := bnd_e h3
                        refine st rfl rfl rfl (yv_add rfl rfl rfl e59) ?_
                        refine st rfl rfl rfl (yv_assign rfl rfl) ?_
                        refine rg_nil (hK _ ?_)
                        refine c_nil (ln8 _ ⟨x59, (), h3, leH_kn ⟨⟨_, rfl, (.refl _)⟩, ⟨_, rfl, (.refl _)⟩, ⟨_, rfl, (.refl _)⟩, ⟨_, rfl, (.refl _)⟩, ⟨_, rfl, (.refl _)⟩, ⟨_, rfl, (.refl _)⟩, trivial⟩ ⟨⟨_, rfl, (.refl _)⟩, ⟨_, rfl, (.refl _)⟩, trivial⟩⟩)
                    · intro hb; subst hb; replace h3 := cf h3
                      refine c_exit (lx8 _ _ (bx7 _ ?_))
                      obtain rfl := brk_e h3
                      refine c_nil (jn6 _ ⟨(), (), rfl, leH_kn ⟨⟨_, rfl, (.refl _)⟩, ⟨_, rfl, (.refl _)⟩, ⟨_, rfl, (.refl _)⟩, ⟨_, rfl, (.refl _)⟩, trivial⟩ ⟨⟨_, rfl, (.refl _)⟩, trivial⟩⟩)
                  · rintro _ _ rfl
                    replace h2 := sel_l h2
                    refine c_nil (bn5 _ ?_)
                    obtain rfl := brk_e h2
                    refine c_nil (jn4 _ ⟨(), (), rfl, leH_kn ⟨⟨_, rfl, (.refl _)⟩, ⟨_, rfl, (.refl _)⟩, ⟨_, rfl, (.refl _)⟩, ⟨_, rfl, (.refl _)⟩, trivial⟩ ⟨⟨_, rfl, (.refl _)⟩, trivial⟩⟩)
          · rintro _ _ rfl
            replace h1 := sel_l h1
            refine c_show ⟨kn [(2, boo false), (4, .pt 2 v5 0 0), (6, int (x2.Weights.length : Int)), (7, int y1_1)], hk [(2, ⟨53, 10, true, true, v5, [[int x4.1.Master.Entities, int x4.1.Master.Periods, lst 1 fI x4.1.Master.Weights, lst 1 (fL 1 fI) x4.1.Master.Methods, lst 1 (fL 1 fI) x4.1.Master.Costs, lst 8 GEnt.av x4.1.Ents, lst 8 GReceipt.av x4.1.Receipts, lst 9 GSale.av x4.1.Sales, lst 6 GTransit.av x4.1.Transits, int x4.1.Done]]⟩)]⟩ ?_
            refine c_reg ?_; intro K hK
            refine st rfl rfl rfl (yv_move rfl rfl) ?_
            obtain ⟨x60, e60, h1⟩ := bnd_e h1
            refine st rfl rfl rfl (yv_add rfl rfl rfl e60) ?_
            refine st rfl rfl rfl (yv_assign rfl rfl) ?_
            refine rg_nil (hK _ ?_)
            refine c_nil (ln3 _ ⟨x60, (), h1, leH_kn ⟨⟨_, rfl, (.refl _)⟩, ⟨_, rfl, (.refl _)⟩, ⟨_, rfl, (.refl _)⟩, ⟨_, rfl, (.refl _)⟩, trivial⟩ ⟨⟨_, rfl, (.refl _)⟩, trivial⟩⟩)
        · intro hb; subst hb; replace h1 := cf h1
          refine c_exit (lx3 _ _ (bx2 _ ?_))
          obtain rfl := brk_e h1
          refine c_nil (jn1 _ ⟨(), (), rfl, leH_kn ⟨⟨_, rfl, (.refl _)⟩, trivial⟩ trivial⟩)
      · rintro _ _ rfl
        replace h0 := sel_l h0
        refine c_show ⟨kn [(2, boo false)], hk []⟩ ?_
        refine c_seq ?_
        refine c_reg ?_; intro K hK
        obtain ⟨x61, e61, h0⟩ := bind_e h0
        refine st rfl rfl rfl (yv_callP rfl rfl .nil cal25 (CvL.refl _) (d_law04_awake_c e61)) ?_
        refine st rfl rfl rfl (yv_assign rfl rfl) ?_
        refine rg_nil (hK _ ?_)
        obtain rfl := nxt_e h0
        refine c_ret (hret _ _ _ (.tmp rfl .nil) (fun _ _ h => h) ?_)
        exact .refl _
end Go.Pv
