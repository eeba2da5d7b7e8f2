import Derived.Test.YtpbcnilkippahaaK55b
set_option linter.unusedVariables false
namespace Go.Pv
open Go.Proofs
set_option maxRecDepth 10000
set_option maxHeartbeats 1000000
def d_ref05_part (n : Nat) (a1 : GOp) (a2 : GOp) (a3 : Int) : Option (GOp × Bool) :=
bnd (decide (a3 = 101)) fun x7 =>
cond x7 ((show Option (Bool) from
bnd (decide (a1.E ≥ 0)) fun x37 =>
cond x37 (bnd (decide (a1.E < 4)) fun x38 =>
some (x38 : Bool)) (some (false : Bool))).bind <| fun y5_1 =>
some (((⟨a2.Kind, a1.E, a2.Item, a2.Loc, a2.To, a2.Qty, a2.Amount, a2.Ref, a2.Refs⟩ : GOp) : GOp), (y5_1 : Bool))) (bnd (decide (a3 = 105)) fun x8 =>
cond x8 ((show Option (Bool) from
bnd (decide (a1.Item ≥ 0)) fun x34 =>
cond x34 (bnd (decide (a1.Item < 5)) fun x35 =>
some (x35 : Bool)) (some (false : Bool))).bind <| fun y4_1 =>
some (((⟨a2.Kind, a2.E, a1.Item, a2.Loc, a2.To, a2.Qty, a2.Amount, a2.Ref, a2.Refs⟩ : GOp) : GOp), (y4_1 : Bool))) (bnd (decide (a3 = 108)) fun x9 =>
cond x9 ((show Option (Bool) from
bnd (decide (a1.Loc ≥ 0)) fun x31 =>
cond x31 (bnd (decide (a1.Loc < 2)) fun x32 =>
some (x32 : Bool)) (some (false : Bool))).bind <| fun y3_1 =>
some (((⟨a2.Kind, a2.E, a2.Item, a1.Loc, a2.To, a2.Qty, a2.Amount, a2.Ref, a2.Refs⟩ : GOp) : GOp), (y3_1 : Bool))) (bnd (decide (a3 = 116)) fun x10 =>
cond x10 ((d_ref05_to a1).bind fun x29 =>
some (((⟨a2.Kind, a2.E, a2.Item, a2.Loc, a1.To, a2.Qty, a2.Amount, a2.Ref, a2.Refs⟩ : GOp) : GOp), (x29 : Bool))) (bnd (decide (a3 = 113)) fun x11 =>
cond x11 ((show Option (Bool) from
bnd (decide (a1.Qty ≤ 1073741824)) fun x25 =>
cond x25 (bnd (decide (a1.Qty ≥ 1)) fun x26 =>
cond x26 (some (true : Bool)) (bnd (decide (a1.Qty = 0)) fun x27 =>
cond x27 (bnd (decide (a1.Kind = 7)) fun x28 =>
some (x28 : Bool)) (some (false : Bool)))) (some (false : Bool))).bind <| fun y2_1 =>
some (((⟨a2.Kind, a2.E, a2.Item, a2.Loc, a2.To, a1.Qty, a2.Amount, a2.Ref, a2.Refs⟩ : GOp) : GOp), (y2_1 : Bool))) (bnd (decide (a3 = 97)) fun x12 =>
cond x12 ((show Option (Bool) from
bnd (decide (a1.Amount ≥ 0)) fun x19 =>
cond x19 (bnd (decide (a1.Amount ≤ 1125899906842624)) fun x20 =>
cond x20 (bnd (decide (a1.Amount ≤ 1073741824)) fun x21 =>
cond x21 (some (true : Bool)) (bnd (decide (a1.Kind ≠ 9)) fun x22 =>
cond x22 (bnd (decide (a1.Kind ≠ 10)) fun x23 =>
some (x23 : Bool)) (some (false : Bool)))) (some (false : Bool))) (some (false : Bool))).bind <| fun y1_1 =>
some (((⟨a2.Kind, a2.E, a2.Item, a2.Loc, a2.To, a2.Qty, a1.Amount, a2.Ref, a2.Refs⟩ : GOp) : GOp), (y1_1 : Bool))) (bnd (decide (a3 = 114)) fun x13 =>
cond x13 ((show Option (Bool) from
bnd (decide (a1.Ref ≥ 0)) fun x16 =>
cond x16 (bnd (decide (a1.Ref < 40)) fun x17 =>
some (x17 : Bool)) (some (false : Bool))).bind <| fun y0_1 =>
some (((⟨a2.Kind, a2.E, a2.Item, a2.Loc, a2.To, a2.Qty, a2.Amount, a1.Ref, a2.Refs⟩ : GOp) : GOp), (y0_1 : Bool))) ((d_ref05_refs n a1.Refs).bind fun x14 =>
some (((⟨a2.Kind, a2.E, a2.Item, a2.Loc, a2.To, a2.Qty, a2.Amount, a2.Ref, a1.Refs⟩ : GOp) : GOp), (x14 : Bool)))))))))
theorem d_ref05_part_c {n : Nat} {a1 : GOp} {a2 : GOp} {a3 : Int} {r : GOp × Bool} (h0 : d_ref05_part n a1 a2 a3 = some r) : PP Try.prog 26 [.agg (GOp.av a1), .agg (GOp.av a2), .sc (.int .u8 a3)] (fun y => y = .tup [.agg (GOp.av r.1), boo r.2]) := by
  unfold d_ref05_part at h0
  refine pp_of_pc (R0 := fun y H => Cv (frzH H) y (.tup [.agg (GOp.av r.1), boo r.2])) ?_ (fun y H hc => ⟨_, rfl, .tup (pvl2 ((fun (a : GOp) => PV.agg (GOp.pvc a)) (r.1)) (pvB (r.2))), hc⟩)
  refine pcw (c := _) Try.func26 rfl rfl ?_; intro Q hret hnorm
  refine tc tbk 2 (.mk ?_)
  refine sB 1 fun v4 => ?_
  refine sB 2 fun v5 => ?_
  refine sA 3 z28 fun v6 => ?_
  refine tr tbk 10 (.mk ?_)
  refine nb tbk h0 fun x7 h0 => ?_
  refine tr tbk 2 (.mk ?_)
  cases x7
  replace h0 := cf h0
  refine tc tbk 3 (.mk ?_)
  refine nb tbk h0 fun x8 h0 => ?_
  refine tr tbk 2 (.mk ?_)
  cases x8
  replace h0 := cf h0
  refine tc tbk 3 (.mk ?_)
  refine nb tbk h0 fun x9 h0 => ?_
  refine tr tbk 2 (.mk ?_)
  cases x9
  replace h0 := cf h0
  refine tc tbk 3 (.mk ?_)
  refine nb tbk h0 fun x10 h0 => ?_
  refine tr tbk 2 (.mk ?_)
  cases x10
  replace h0 := cf h0
  refine tc tbk 3 (.mk ?_)
  refine nb tbk h0 fun x11 h0 => ?_
  refine tr tbk 2 (.mk ?_)
  cases x11
  replace h0 := cf h0
  refine tc tbk 3 (.mk ?_)
  refine nb tbk h0 fun x12 h0 => ?_
  refine tr tbk 2 (.mk ?_)
  cases x12
  replace h0 := cf h0
  refine tc tbk 3 (.mk ?_)
  refine nb tbk h0 fun x13 h0 => ?_
  refine tr tbk 2 (.mk ?_)
  cases x13
  replace h0 := cf h0
  refine tc tbk 8 (.mk ?_)
  refine sS ⟨28, 9, true, true, v5, [[int a2.Kind, int a2.E, int a2.Item, int a2.Loc, int a2.To, int a2.Qty, int a2.Amount, int a2.Ref, lst 1 fI a1.Refs]]⟩ sh26 ?_
  refine tr tbk 2 (.mk ?_)
  refine c_drawE [0, 0, 2, 6, 15, 31] (rl [(0, [2]), (1, [1]), (2, [1])] []) (rl [(4, [])] [1, 2]) (rl [(4, false)] true) [0, 1, 2, 3, 4, 5] mixed (by kernel_rfl) ?_; intro K hK
  refine eL sh28 ?_
  refine eF fo28_8 ?_
  refine eL sh26 ?_
  obtain ⟨x14, e14, h0⟩ := bind_e h0
  refine eP (fun H hH => yv_callP rfl rfl (.cons rfl .nil) cal48 (CvL.refl _) (d_ref05_refs_c e14)) ?_
  refine de_eff0 rfl rfl rfl rfl (Yield.weak (yl_ob (ob' := (⟨28, 9, true, true, v6, [[int a2.Kind, int a2.E, int a2.Item, int a2.Loc, int a2.To, int a2.Qty, int a2.Amount, int a2.Ref, lst 1 fI a1.Refs]]⟩ : AObj)) (yl_store rfl sh28 rfl rfl rfl rfl rfl rfl rfl rfl rfl) rfl) (fun _ h => h) (fun _ _ => trivial)) (by rintro _ _ ⟨rfl, rfl⟩; exact trivial) ?_; rintro _ _ ⟨rfl, rfl⟩
  refine eA ?_
  refine de_nil (hK _ ?_)
  obtain rfl := nxt_e h0
  refine wR hret (rC sh28 (rT .nil)) ?_
  exact .refl _
  replace h0 := ct h0
  refine tc tbk 6 (.mk ?_)
  refine sS ⟨28, 9, true, true, v5, [[int a2.Kind, int a2.E, int a2.Item, int a2.Loc, int a2.To, int a2.Qty, int a2.Amount, int a1.Ref, lst 1 fI a2.Refs]]⟩ sh3 ?_
  refine tr tbk 2 (.mk ?_)
  refine jn h0 [3, 4, 6] [1, 2] (fun (a : Bool) (k : Unit) => [(7, boo a)]) (fun a k => [(3, ⟨28, 9, true, true, v6, [[int a2.Kind, int a2.E, int a2.Item, int a2.Loc, int a2.To, int a2.Qty, int a2.Amount, int a1.Ref, lst 1 fI a2.Refs]]⟩)]) ⟨fun j15 h1 => ?_, ?_⟩
  refine c_drawE [0, 0, 2, 6, 14, 30, 62, 126, 254, 31, 1023] (rl [(0, [2]), (1, [1]), (2, [1]), (5, [1]), (6, [1])] []) (rl [(9, [1])] [1, 2]) (rl [(9, false)] true) [0, 1, 2, 3, 4, 5, 6, 7, 8, 9, 10] mixed (by kernel_rfl) ?_; intro K hK
  refine eL sh28 ?_
  refine eF fo28_7 ?_
  refine eL sh3 ?_
  obtain ⟨x16, e16, h1⟩ := bnd_e h1
  refine eP (fun H hH => yv_to (y := boo x16) (yv_geq rfl rfl rfl) (congrArg boo e16)) ?_
  refine eM ?_
  cases x16
  replace h1 := cf h1
  refine de_skip rfl rfl rfl ?_
  refine de_skip rfl rfl rfl ?_
  refine de_skip rfl rfl rfl ?_
  refine eP (fun H hH => yv_pick rfl rfl (fun _ => rfl) (fun _ => rfl) rfl) ?_
  refine de_eff0 rfl rfl rfl rfl (Yield.weak (yl_ob (ob' := (⟨28, 9, true, true, v6, [[int a2.Kind, int a2.E, int a2.Item, int a2.Loc, int a2.To, int a2.Qty, int a2.Amount, int a1.Ref, lst 1 fI a2.Refs]]⟩ : AObj)) (yl_store rfl sh28 rfl rfl rfl rfl rfl rfl rfl rfl rfl) rfl) (fun _ h => h) (fun _ _ => trivial)) (by rintro _ _ ⟨rfl, rfl⟩; exact ⟨rfl, trivial⟩) ?_; rintro _ _ ⟨rfl, rfl⟩
  refine eA ?_
  refine de_nil (hK _ ?_)
  exact lf h1 () leA
  replace h1 := ct h1
  refine eF fo28_7 ?_
  refine eL sh3 ?_
  obtain ⟨x17, e17, h1⟩ := bnd_e h1
  refine eP (fun H hH => yv_to (y := boo x17) (yv_lss rfl rfl rfl) (congrArg boo e17)) ?_
  refine eP (fun H hH => yv_pick rfl rfl (fun _ => rfl) (fun _ => rfl) rfl) ?_
  refine de_eff0 rfl rfl rfl rfl (Yield.weak (yl_ob (ob' := (⟨28, 9, true, true, v6, [[int a2.Kind, int a2.E, int a2.Item, int a2.Loc, int a2.To, int a2.Qty, int a2.Amount, int a1.Ref, lst 1 fI a2.Refs]]⟩ : AObj)) (yl_store rfl sh28 rfl rfl rfl rfl rfl rfl rfl rfl rfl) rfl) (fun _ h => h) (fun _ _ => trivial)) (by rintro _ _ ⟨rfl, rfl⟩; exact ⟨rfl, trivial⟩) ?_; rintro _ _ ⟨rfl, rfl⟩
  refine eA ?_
  refine de_nil (hK _ ?_)
  exact lf h1 () leA
  rintro y0_1 _ h0
  obtain rfl := nxt_e h0
  refine wR hret (rC sh28 (rT .nil)) ?_
  exact .refl _
  replace h0 := ct h0
  refine tc tbk 6 (.mk ?_)
  refine sS ⟨28, 9, true, true, v5, [[int a2.Kind, int a2.E, int a2.Item, int a2.Loc, int a2.To, int a2.Qty, int a1.Amount, int a2.Ref, lst 1 fI a2.Refs]]⟩ sh3 ?_
  refine tr tbk 2 (.mk ?_)
  refine jn h0 [3, 4, 6] [1, 2] (fun (a : Bool) (k : Unit) => [(7, boo a)]) (fun a k => [(3, ⟨28, 9, true, true, v6, [[int a2.Kind, int a2.E, int a2.Item, int a2.Loc, int a2.To, int a2.Qty, int a1.Amount, int a2.Ref, lst 1 fI a2.Refs]]⟩)]) ⟨fun j18 h1 => ?_, ?_⟩
  refine c_drawE [0, 0, 2, 6, 14, 30, 62, 126, 254, 510, 1022, 2046, 4094, 8190, 16382, 32766, 65534, 131070, 262142, 524286, 1048574, 2097150, 4194302, 8388606, 262143, 33554431] (rl [(0, [2]), (1, [1]), (2, [1]), (5, [1]), (6, [1]), (10, [1]), (11, [1]), (14, [1]), (15, [1]), (18, [1]), (19, [1])] []) (rl [(24, [1])] [1, 2]) (rl [(24, false)] true) [0, 1, 2, 3, 4, 5, 6, 7, 8, 9, 10, 11, 12, 13, 14, 15, 16, 17, 18, 19, 20, 21, 22, 23, 24, 25] mixed (by kernel_rfl) ?_; intro K hK
  refine eL sh28 ?_
  refine eF fo28_6 ?_
  refine eL sh3 ?_
  obtain ⟨x19, e19, h1⟩ := bnd_e h1
  refine eP (fun H hH => yv_to (y := boo x19) (yv_geq rfl rfl rfl) (congrArg boo e19)) ?_
  refine eM ?_
  cases x19
  replace h1 := cf h1
  refine de_skip rfl rfl rfl ?_
  refine de_skip rfl rfl rfl ?_
  refine de_skip rfl rfl rfl ?_
  refine eP (fun H hH => yv_pick rfl rfl (fun _ => rfl) (fun _ => rfl) rfl) ?_
  refine eM ?_
  refine de_skip rfl rfl rfl ?_
  refine de_skip rfl rfl rfl ?_
  refine de_skip rfl rfl rfl ?_
  refine de_skip rfl rfl rfl ?_
  refine de_skip rfl rfl rfl ?_
  refine de_skip rfl rfl rfl ?_
  refine de_skip rfl rfl rfl ?_
  refine de_skip rfl rfl rfl ?_
  refine de_skip rfl rfl rfl ?_
  refine de_skip rfl rfl rfl ?_
  refine de_skip rfl rfl rfl ?_
  refine de_skip rfl rfl rfl ?_
  refine de_skip rfl rfl rfl ?_
  refine eP (fun H hH => yv_pick rfl rfl (fun _ => rfl) (fun _ => rfl) rfl) ?_
  refine de_eff0 rfl rfl rfl rfl (Yield.weak (yl_ob (ob' := (⟨28, 9, true, true, v6, [[int a2.Kind, int a2.E, int a2.Item, int a2.Loc, int a2.To, int a2.Qty, int a1.Amount, int a2.Ref, lst 1 fI a2.Refs]]⟩ : AObj)) (yl_store rfl sh28 rfl rfl rfl rfl rfl rfl rfl rfl rfl) rfl) (fun _ h => h) (fun _ _ => trivial)) (by rintro _ _ ⟨rfl, rfl⟩; exact ⟨rfl, trivial⟩) ?_; rintro _ _ ⟨rfl, rfl⟩
  refine eA ?_
  refine de_nil (hK _ ?_)
  exact lf h1 () leA
  replace h1 := ct h1
  refine eF fo28_6 ?_
  refine eL sh3 ?_
  obtain ⟨x20, e20, h1⟩ := bnd_e h1
  refine eP (fun H hH => yv_to (y := boo x20) (yv_leq rfl rfl rfl) (congrArg boo e20)) ?_
  refine eP (fun H hH => yv_pick rfl rfl (fun _ => rfl) (fun _ => rfl) rfl) ?_
  refine eM ?_
  cases x20
  replace h1 := cf h1
  refine de_skip rfl rfl rfl ?_
  refine de_skip rfl rfl rfl ?_
  refine de_skip rfl rfl rfl ?_
  refine de_skip rfl rfl rfl ?_
  refine de_skip rfl rfl rfl ?_
  refine de_skip rfl rfl rfl ?_
  refine de_skip rfl rfl rfl ?_
  refine de_skip rfl rfl rfl ?_
  refine de_skip rfl rfl rfl ?_
  refine de_skip rfl rfl rfl ?_
  refine de_skip rfl rfl rfl ?_
  refine de_skip rfl rfl rfl ?_
  refine de_skip rfl rfl rfl ?_
  refine eP (fun H hH => yv_pick rfl rfl (fun _ => rfl) (fun _ => rfl) rfl) ?_
  refine de_eff0 rfl rfl rfl rfl (Yield.weak (yl_ob (ob' := (⟨28, 9, true, true, v6, [[int a2.Kind, int a2.E, int a2.Item, int a2.Loc, int a2.To, int a2.Qty, int a1.Amount, int a2.Ref, lst 1 fI a2.Refs]]⟩ : AObj)) (yl_store rfl sh28 rfl rfl rfl rfl rfl rfl rfl rfl rfl) rfl) (fun _ h => h) (fun _ _ => trivial)) (by rintro _ _ ⟨rfl, rfl⟩; exact ⟨rfl, trivial⟩) ?_; rintro _ _ ⟨rfl, rfl⟩
  refine eA ?_
  refine de_nil (hK _ ?_)
  exact lf h1 () leA
  replace h1 := ct h1
  refine eF fo28_6 ?_
  refine eL sh3 ?_
  obtain ⟨x21, e21, h1⟩ := bnd_e h1
  refine eP (fun H hH => yv_to (y := boo x21) (yv_leq rfl rfl rfl) (congrArg boo e21)) ?_
  refine eM ?_
  cases x21
  replace h1 := cf h1
  refine eF fo28_0 ?_
  refine eL sh3 ?_
  obtain ⟨x22, e22, h1⟩ := bnd_e h1
  refine eP (fun H hH => yv_to (y := boo x22) (yv_neq rfl rfl rfl) (congrArg boo e22)) ?_
  refine eM ?_
  cases x22
  replace h1 := cf h1
  refine de_skip rfl rfl rfl ?_
  refine de_skip rfl rfl rfl ?_
  refine de_skip rfl rfl rfl ?_
  refine eP (fun H hH => yv_pick rfl rfl (fun _ => rfl) (fun _ => rfl) rfl) ?_
  refine eP (fun H hH => yv_pick rfl rfl (fun _ => rfl) (fun _ => rfl) rfl) ?_
  refine eP (fun H hH => yv_pick rfl rfl (fun _ => rfl) (fun _ => rfl) rfl) ?_
  refine de_eff0 rfl rfl rfl rfl (Yield.weak (yl_ob (ob' := (⟨28, 9, true, true, v6, [[int a2.Kind, int a2.E, int a2.Item, int a2.Loc, int a2.To, int a2.Qty, int a1.Amount, int a2.Ref, lst 1 fI a2.Refs]]⟩ : AObj)) (yl_store rfl sh28 rfl rfl rfl rfl rfl rfl rfl rfl rfl) rfl) (fun _ h => h) (fun _ _ => trivial)) (by rintro _ _ ⟨rfl, rfl⟩; exact ⟨rfl, trivial⟩) ?_; rintro _ _ ⟨rfl, rfl⟩
  refine eA ?_
  refine de_nil (hK _ ?_)
  exact lf h1 () leA
  replace h1 := ct h1
  refine eF fo28_0 ?_
  refine eL sh3 ?_
  obtain ⟨x23, e23, h1⟩ := bnd_e h1
  refine eP (fun H hH => yv_to (y := boo x23) (yv_neq rfl rfl rfl) (congrArg boo e23)) ?_
  refine eP (fun H hH => yv_pick rfl rfl (fun _ => rfl) (fun _ => rfl) rfl) ?_
  refine eP (fun H hH => yv_pick rfl rfl (fun _ => rfl) (fun _ => rfl) rfl) ?_
  refine eP (fun H hH => yv_pick rfl rfl (fun _ => rfl) (fun _ => rfl) rfl) ?_
  refine de_eff0 rfl rfl rfl rfl (Yield.weak (yl_ob (ob' := (⟨28, 9, true, true, v6, [[int a2.Kind, int a2.E, int a2.Item, int a2.Loc, int a2.To, int a2.Qty, int a1.Amount, int a2.Ref, lst 1 fI a2.Refs]]⟩ : AObj)) (yl_store rfl sh28 rfl rfl rfl rfl rfl rfl rfl rfl rfl) rfl) (fun _ h => h) (fun _ _ => trivial)) (by rintro _ _ ⟨rfl, rfl⟩; exact ⟨rfl, trivial⟩) ?_; rintro _ _ ⟨rfl, rfl⟩
  refine eA ?_
  refine de_nil (hK _ ?_)
  exact lf h1 () leA
  replace h1 := ct h1
  refine de_skip rfl rfl rfl ?_
  refine de_skip rfl rfl rfl ?_
  refine de_skip rfl rfl rfl ?_
  refine de_skip rfl rfl rfl ?_
  refine de_skip rfl rfl rfl ?_
  refine de_skip rfl rfl rfl ?_
  refine de_skip rfl rfl rfl ?_
  refine de_skip rfl rfl rfl ?_
  refine eP (fun H hH => yv_pick rfl rfl (fun _ => rfl) (fun _ => rfl) rfl) ?_
  refine eP (fun H hH => yv_pick rfl rfl (fun _ => rfl) (fun _ => rfl) rfl) ?_
  refine de_eff0 rfl rfl rfl rfl (Yield.weak (yl_ob (ob' := (⟨28, 9, true, true, v6, [[int a2.Kind, int a2.E, int a2.Item, int a2.Loc, int a2.To, int a2.Qty, int a1.Amount, int a2.Ref, lst 1 fI a2.Refs]]⟩ : AObj)) (yl_store rfl sh28 rfl rfl rfl rfl rfl rfl rfl rfl rfl) rfl) (fun _ h => h) (fun _ _ => trivial)) (by rintro _ _ ⟨rfl, rfl⟩; exact ⟨rfl, trivial⟩) ?_; rintro _ _ ⟨rfl, rfl⟩
  refine eA ?_
  refine de_nil (hK _ ?_)
  exact lf h1 () leA
  rintro y1_1 _ h0
  obtain rfl := nxt_e h0
  refine wR hret (rC sh28 (rT .nil)) ?_
  exact .refl _
  replace h0 := ct h0
  refine tc tbk 6 (.mk ?_)
  refine sS ⟨28, 9, true, true, v5, [[int a2.Kind, int a2.E, int a2.Item, int a2.Loc, int a2.To, int a1.Qty, int a2.Amount, int a2.Ref, lst 1 fI a2.Refs]]⟩ sh3 ?_
  refine tr tbk 2 (.mk ?_)
  refine jn h0 [3, 4, 6] [1, 2] (fun (a : Bool) (k : Unit) => [(7, boo a)]) (fun a k => [(3, ⟨28, 9, true, true, v6, [[int a2.Kind, int a2.E, int a2.Item, int a2.Loc, int a2.To, int a1.Qty, int a2.Amount, int a2.Ref, lst 1 fI a2.Refs]]⟩)]) ⟨fun j24 h1 => ?_, ?_⟩
  refine c_drawE [0, 0, 2, 6, 14, 30, 62, 126, 254, 510, 1022, 2046, 4094, 8190, 16382, 32766, 65534, 131070, 262142, 8191, 1048575] (rl [(0, [2]), (1, [1]), (2, [1]), (5, [1]), (6, [1]), (9, [1]), (10, [1]), (13, [1]), (14, [1])] []) (rl [(19, [1])] [1, 2]) (rl [(19, false)] true) [0, 1, 2, 3, 4, 5, 6, 7, 8, 9, 10, 11, 12, 13, 14, 15, 16, 17, 18, 19, 20] mixed (by kernel_rfl) ?_; intro K hK
  refine eL sh28 ?_
  refine eF fo28_5 ?_
  refine eL sh3 ?_
  obtain ⟨x25, e25, h1⟩ := bnd_e h1
  refine eP (fun H hH => yv_to (y := boo x25) (yv_leq rfl rfl rfl) (congrArg boo e25)) ?_
  refine eM ?_
  cases x25
  replace h1 := cf h1
  refine de_skip rfl rfl rfl ?_
  refine de_skip rfl rfl rfl ?_
  refine de_skip rfl rfl rfl ?_
  refine de_skip rfl rfl rfl ?_
  refine de_skip rfl rfl rfl ?_
  refine de_skip rfl rfl rfl ?_
  refine de_skip rfl rfl rfl ?_
  refine de_skip rfl rfl rfl ?_
  refine de_skip rfl rfl rfl ?_
  refine de_skip rfl rfl rfl ?_
  refine de_skip rfl rfl rfl ?_
  refine de_skip rfl rfl rfl ?_
  refine de_skip rfl rfl rfl ?_
  refine eP (fun H hH => yv_pick rfl rfl (fun _ => rfl) (fun _ => rfl) rfl) ?_
  refine de_eff0 rfl rfl rfl rfl (Yield.weak (yl_ob (ob' := (⟨28, 9, true, true, v6, [[int a2.Kind, int a2.E, int a2.Item, int a2.Loc, int a2.To, int a1.Qty, int a2.Amount, int a2.Ref, lst 1 fI a2.Refs]]⟩ : AObj)) (yl_store rfl sh28 rfl rfl rfl rfl rfl rfl rfl rfl rfl) rfl) (fun _ h => h) (fun _ _ => trivial)) (by rintro _ _ ⟨rfl, rfl⟩; exact ⟨rfl, trivial⟩) ?_; rintro _ _ ⟨rfl, rfl⟩
  refine eA ?_
  refine de_nil (hK _ ?_)
  exact lf h1 () leA
  replace h1 := ct h1
  refine eF fo28_5 ?_
  refine eL sh3 ?_
  obtain ⟨x26, e26, h1⟩ := bnd_e h1
  refine eP (fun H hH => yv_to (y := boo x26) (yv_geq rfl rfl rfl) (congrArg boo e26)) ?_
  refine eM ?_
  cases x26
  replace h1 := cf h1
  refine eF fo28_5 ?_
  refine eL sh3 ?_
  obtain ⟨x27, e27, h1⟩ := bnd_e h1
  refine eP (fun H hH => yv_to (y := boo x27) (yv_eql rfl rfl rfl) (congrArg boo e27)) ?_
  refine eM ?_
  cases x27
  replace h1 := cf h1
  refine de_skip rfl rfl rfl ?_
  refine de_skip rfl rfl rfl ?_
  refine de_skip rfl rfl rfl ?_
  refine eP (fun H hH => yv_pick rfl rfl (fun _ => rfl) (fun _ => rfl) rfl) ?_
  refine eP (fun H hH => yv_pick rfl rfl (fun _ => rfl) (fun _ => rfl) rfl) ?_
  refine eP (fun H hH => yv_pick rfl rfl (fun _ => rfl) (fun _ => rfl) rfl) ?_
  refine de_eff0 rfl rfl rfl rfl (Yield.weak (yl_ob (ob' := (⟨28, 9, true, true, v6, [[int a2.Kind, int a2.E, int a2.Item, int a2.Loc, int a2.To, int a1.Qty, int a2.Amount, int a2.Ref, lst 1 fI a2.Refs]]⟩ : AObj)) (yl_store rfl sh28 rfl rfl rfl rfl rfl rfl rfl rfl rfl) rfl) (fun _ h => h) (fun _ _ => trivial)) (by rintro _ _ ⟨rfl, rfl⟩; exact ⟨rfl, trivial⟩) ?_; rintro _ _ ⟨rfl, rfl⟩
  refine eA ?_
  refine de_nil (hK _ ?_)
  exact lf h1 () leA
  replace h1 := ct h1
  refine eF fo28_0 ?_
  refine eL sh3 ?_
  obtain ⟨x28, e28, h1⟩ := bnd_e h1
  refine eP (fun H hH => yv_to (y := boo x28) (yv_eql rfl rfl rfl) (congrArg boo e28)) ?_
  refine eP (fun H hH => yv_pick rfl rfl (fun _ => rfl) (fun _ => rfl) rfl) ?_
  refine eP (fun H hH => yv_pick rfl rfl (fun _ => rfl) (fun _ => rfl) rfl) ?_
  refine eP (fun H hH => yv_pick rfl rfl (fun _ => rfl) (fun _ => rfl) rfl) ?_
  refine de_eff0 rfl rfl rfl rfl (Yield.weak (yl_ob (ob' := (⟨28, 9, true, true, v6, [[int a2.Kind, int a2.E, int a2.Item, int a2.Loc, int a2.To, int a1.Qty, int a2.Amount, int a2.Ref, lst 1 fI a2.Refs]]⟩ : AObj)) (yl_store rfl sh28 rfl rfl rfl rfl rfl rfl rfl rfl rfl) rfl) (fun _ h => h) (fun _ _ => trivial)) (by rintro _ _ ⟨rfl, rfl⟩; exact ⟨rfl, trivial⟩) ?_; rintro _ _ ⟨rfl, rfl⟩
  refine eA ?_
  refine de_nil (hK _ ?_)
  exact lf h1 () leA
  replace h1 := ct h1
  refine de_skip rfl rfl rfl ?_
  refine de_skip rfl rfl rfl ?_
  refine de_skip rfl rfl rfl ?_
  refine de_skip rfl rfl rfl ?_
  refine de_skip rfl rfl rfl ?_
  refine de_skip rfl rfl rfl ?_
  refine de_skip rfl rfl rfl ?_
  refine de_skip rfl rfl rfl ?_
  refine eP (fun H hH => yv_pick rfl rfl (fun _ => rfl) (fun _ => rfl) rfl) ?_
  refine eP (fun H hH => yv_pick rfl rfl (fun _ => rfl) (fun _ => rfl) rfl) ?_
  refine de_eff0 rfl rfl rfl rfl (Yield.weak (yl_ob (ob' := (⟨28, 9, true, true, v6, [[int a2.Kind, int a2.E, int a2.Item, int a2.Loc, int a2.To, int a1.Qty, int a2.Amount, int a2.Ref, lst 1 fI a2.Refs]]⟩ : AObj)) (yl_store rfl sh28 rfl rfl rfl rfl rfl rfl rfl rfl rfl) rfl) (fun _ h => h) (fun _ _ => trivial)) (by rintro _ _ ⟨rfl, rfl⟩; exact ⟨rfl, trivial⟩) ?_; rintro _ _ ⟨rfl, rfl⟩
  refine eA ?_
  refine de_nil (hK _ ?_)
  exact lf h1 () leA
  rintro y2_1 _ h0
  obtain rfl := nxt_e h0
  refine wR hret (rC sh28 (rT .nil)) ?_
  exact .refl _
  replace h0 := ct h0
  refine tc tbk 6 (.mk ?_)
  refine sS ⟨28, 9, true, true, v5, [[int a2.Kind, int a2.E, int a2.Item, int a2.Loc, int a1.To, int a2.Qty, int a2.Amount, int a2.Ref, lst 1 fI a2.Refs]]⟩ sh3 ?_
  refine tr tbk 2 (.mk ?_)
  refine c_drawE [0, 0, 2, 7, 15] (rl [(0, [2]), (1, [1])] []) (rl [(3, [])] [1, 2]) (rl [(3, false)] true) [0, 1, 2, 3, 4] mixed (by kernel_rfl) ?_; intro K hK
  refine eL sh28 ?_
  refine eL sh28 ?_
  obtain ⟨x29, e29, h0⟩ := bind_e h0
  refine eP (fun H hH => yv_callP rfl rfl (.cons rfl .nil) cal47 (CvL.refl _) (d_ref05_to_c e29)) ?_
  refine de_eff0 rfl rfl rfl rfl (Yield.weak (yl_ob (ob' := (⟨28, 9, true, true, v6, [[int a2.Kind, int a2.E, int a2.Item, int a2.Loc, int a1.To, int a2.Qty, int a2.Amount, int a2.Ref, lst 1 fI a2.Refs]]⟩ : AObj)) (yl_store rfl sh28 rfl rfl rfl rfl rfl rfl rfl rfl rfl) rfl) (fun _ h => h) (fun _ _ => trivial)) (by rintro _ _ ⟨rfl, rfl⟩; exact trivial) ?_; rintro _ _ ⟨rfl, rfl⟩
  refine eA ?_
  refine de_nil (hK _ ?_)
  obtain rfl := nxt_e h0
  refine wR hret (rC sh28 (rT .nil)) ?_
  exact .refl _
  replace h0 := ct h0
  refine tc tbk 6 (.mk ?_)
  refine sS ⟨28, 9, true, true, v5, [[int a2.Kind, int a2.E, int a2.Item, int a1.Loc, int a2.To, int a2.Qty, int a2.Amount, int a2.Ref, lst 1 fI a2.Refs]]⟩ sh3 ?_
  refine tr tbk 2 (.mk ?_)
  refine jn h0 [3, 4, 6] [1, 2] (fun (a : Bool) (k : Unit) => [(7, boo a)]) (fun a k => [(3, ⟨28, 9, true, true, v6, [[int a2.Kind, int a2.E, int a2.Item, int a1.Loc, int a2.To, int a2.Qty, int a2.Amount, int a2.Ref, lst 1 fI a2.Refs]]⟩)]) ⟨fun j30 h1 => ?_, ?_⟩
  refine c_drawE [0, 0, 2, 6, 14, 30, 62, 126, 254, 31, 1023] (rl [(0, [2]), (1, [1]), (2, [1]), (5, [1]), (6, [1])] []) (rl [(9, [1])] [1, 2]) (rl [(9, false)] true) [0, 1, 2, 3, 4, 5, 6, 7, 8, 9, 10] mixed (by kernel_rfl) ?_; intro K hK
  refine eL sh28 ?_
  refine eF fo28_3 ?_
  refine eL sh3 ?_
  obtain ⟨x31, e31, h1⟩ := bnd_e h1
  refine eP (fun H hH => yv_to (y := boo x31) (yv_geq rfl rfl rfl) (congrArg boo e31)) ?_
  refine eM ?_
  cases x31
  replace h1 := cf h1
  refine de_skip rfl rfl rfl ?_
  refine de_skip rfl rfl rfl ?_
  refine de_skip rfl rfl rfl ?_
  refine eP (fun H hH => yv_pick rfl rfl (fun _ => rfl) (fun _ => rfl) rfl) ?_
  refine de_eff0 rfl rfl rfl rfl (Yield.weak (yl_ob (ob' := (⟨28, 9, true, true, v6, [[int a2.Kind, int a2.E, int a2.Item, int a1.Loc, int a2.To, int a2.Qty, int a2.Amount, int a2.Ref, lst 1 fI a2.Refs]]⟩ : AObj)) (yl_store rfl sh28 rfl rfl rfl rfl rfl rfl rfl rfl rfl) rfl) (fun _ h => h) (fun _ _ => trivial)) (by rintro _ _ ⟨rfl, rfl⟩; exact ⟨rfl, trivial⟩) ?_; rintro _ _ ⟨rfl, rfl⟩
  refine eA ?_
  refine de_nil (hK _ ?_)
  exact lf h1 () leA
  replace h1 := ct h1
  refine eF fo28_3 ?_
  refine eL sh3 ?_
  obtain ⟨x32, e32, h1⟩ := bnd_e h1
  refine eP (fun H hH => yv_to (y := boo x32) (yv_lss rfl rfl rfl) (congrArg boo e32)) ?_
  refine eP (fun H hH => yv_pick rfl rfl (fun _ => rfl) (fun _ => rfl) rfl) ?_
  refine de_eff0 rfl rfl rfl rfl (Yield.weak (yl_ob (ob' := (⟨28, 9, true, true, v6, [[int a2.Kind, int a2.E, int a2.Item, int a1.Loc, int a2.To, int a2.Qty, int a2.Amount, int a2.Ref, lst 1 fI a2.Refs]]⟩ : AObj)) (yl_store rfl sh28 rfl rfl rfl rfl rfl rfl rfl rfl rfl) rfl) (fun _ h => h) (fun _ _ => trivial)) (by rintro _ _ ⟨rfl, rfl⟩; exact ⟨rfl, trivial⟩) ?_; rintro _ _ ⟨rfl, rfl⟩
  refine eA ?_
  refine de_nil (hK _ ?_)
  exact lf h1 () leA
  rintro y3_1 _ h0
  obtain rfl := nxt_e h0
  refine wR hret (rC sh28 (rT .nil)) ?_
  exact .refl _
  replace h0 := ct h0
  refine tc tbk 6 (.mk ?_)
  refine sS ⟨28, 9, true, true, v5, [[int a2.Kind, int a2.E, int a1.Item, int a2.Loc, int a2.To, int a2.Qty, int a2.Amount, int a2.Ref, lst 1 fI a2.Refs]]⟩ sh3 ?_
  refine tr tbk 2 (.mk ?_)
  refine jn h0 [3, 4, 6] [1, 2] (fun (a : Bool) (k : Unit) => [(7, boo a)]) (fun a k => [(3, ⟨28, 9, true, true, v6, [[int a2.Kind, int a2.E, int a1.Item, int a2.Loc, int a2.To, int a2.Qty, int a2.Amount, int a2.Ref, lst 1 fI a2.Refs]]⟩)]) ⟨fun j33 h1 => ?_, ?_⟩
  refine c_drawE [0, 0, 2, 6, 14, 30, 62, 126, 254, 31, 1023] (rl [(0, [2]), (1, [1]), (2, [1]), (5, [1]), (6, [1])] []) (rl [(9, [1])] [1, 2]) (rl [(9, false)] true) [0, 1, 2, 3, 4, 5, 6, 7, 8, 9, 10] mixed (by kernel_rfl) ?_; intro K hK
  refine eL sh28 ?_
  refine eF fo28_2 ?_
  refine eL sh3 ?_
  obtain ⟨x34, e34, h1⟩ := bnd_e h1
  refine eP (fun H hH => yv_to (y := boo x34) (yv_geq rfl rfl rfl) (congrArg boo e34)) ?_
  refine eM ?_
  cases x34
  replace h1 := cf h1
  refine de_skip rfl rfl rfl ?_
  refine de_skip rfl rfl rfl ?_
  refine de_skip rfl rfl rfl ?_
  refine eP (fun H hH => yv_pick rfl rfl (fun _ => rfl) (fun _ => rfl) rfl) ?_
  refine de_eff0 rfl rfl rfl rfl (Yield.weak (yl_ob (ob' := (⟨28, 9, true, true, v6, [[int a2.Kind, int a2.E, int a1.Item, int a2.Loc, int a2.To, int a2.Qty, int a2.Amount, int a2.Ref, lst 1 fI a2.Refs]]⟩ : AObj)) (yl_store rfl sh28 rfl rfl rfl rfl rfl rfl rfl rfl rfl) rfl) (fun _ h => h) (fun _ _ => trivial)) (by rintro _ _ ⟨rfl, rfl⟩; exact ⟨rfl, trivial⟩) ?_; rintro _ _ ⟨rfl, rfl⟩
  refine eA ?_
  refine de_nil (hK _ ?_)
  exact lf h1 () leA
  replace h1 := ct h1
  refine eF fo28_2 ?_
  refine eL sh3 ?_
  obtain ⟨x35, e35, h1⟩ := bnd_e h1
  refine eP (fun H hH => yv_to (y := boo x35) (yv_lss rfl rfl rfl) (congrArg boo e35)) ?_
  refine eP (fun H hH => yv_pick rfl rfl (fun _ => rfl) (fun _ => rfl) rfl) ?_
  refine de_eff0 rfl rfl rfl rfl (Yield.weak (yl_ob (ob' := (⟨28, 9, true, true, v6, [[int a2.Kind, int a2.E, int a1.Item, int a2.Loc, int a2.To, int a2.Qty, int a2.Amount, int a2.Ref, lst 1 fI a2.Refs]]⟩ : AObj)) (yl_store rfl sh28 rfl rfl rfl rfl rfl rfl rfl rfl rfl) rfl) (fun _ h => h) (fun _ _ => trivial)) (by rintro _ _ ⟨rfl, rfl⟩; exact ⟨rfl, trivial⟩) ?_; rintro _ _ ⟨rfl, rfl⟩
  refine eA ?_
  refine de_nil (hK _ ?_)
  exact lf h1 () leA
  rintro y4_1 _ h0
  obtain rfl := nxt_e h0
  refine wR hret (rC sh28 (rT .nil)) ?_
  exact .refl _
  replace h0 := ct h0
  refine tc tbk 6 (.mk ?_)
  refine sS ⟨28, 9, true, true, v5, [[int a2.Kind, int a1.E, int a2.Item, int a2.Loc, int a2.To, int a2.Qty, int a2.Amount, int a2.Ref, lst 1 fI a2.Refs]]⟩ sh3 ?_
  refine tr tbk 2 (.mk ?_)
  refine jn h0 [3, 4, 6] [1, 2] (fun (a : Bool) (k : Unit) => [(7, boo a)]) (fun a k => [(3, ⟨28, 9, true, true, v6, [[int a2.Kind, int a1.E, int a2.Item, int a2.Loc, int a2.To, int a2.Qty, int a2.Amount, int a2.Ref, lst 1 fI a2.Refs]]⟩)]) ⟨fun j36 h1 => ?_, ?_⟩
  refine c_drawE [0, 0, 2, 6, 14, 30, 62, 126, 254, 31, 1023] (rl [(0, [2]), (1, [1]), (2, [1]), (5, [1]), (6, [1])] []) (rl [(9, [1])] [1, 2]) (rl [(9, false)] true) [0, 1, 2, 3, 4, 5, 6, 7, 8, 9, 10] mixed (by kernel_rfl) ?_; intro K hK
  refine eL sh28 ?_
  refine eF fo28_1 ?_
  refine eL sh3 ?_
  obtain ⟨x37, e37, h1⟩ := bnd_e h1
  refine eP (fun H hH => yv_to (y := boo x37) (yv_geq rfl rfl rfl) (congrArg boo e37)) ?_
  refine eM ?_
  cases x37
  replace h1 := cf h1
  refine de_skip rfl rfl rfl ?_
  refine de_skip rfl rfl rfl ?_
  refine de_skip rfl rfl rfl ?_
  refine eP (fun H hH => yv_pick rfl rfl (fun _ => rfl) (fun _ => rfl) rfl) ?_
  refine de_eff0 rfl rfl rfl rfl (Yield.weak (yl_ob (ob' := (⟨28, 9, true, true, v6, [[int a2.Kind, int a1.E, int a2.Item, int a2.Loc, int a2.To, int a2.Qty, int a2.Amount, int a2.Ref, lst 1 fI a2.Refs]]⟩ : AObj)) (yl_store rfl sh28 rfl rfl rfl rfl rfl rfl rfl rfl rfl) rfl) (fun _ h => h) (fun _ _ => trivial)) (by rintro _ _ ⟨rfl, rfl⟩; exact ⟨rfl, trivial⟩) ?_; rintro _ _ ⟨rfl, rfl⟩
  refine eA ?_
  refine de_nil (hK _ ?_)
  exact lf h1 () leA
  replace h1 := ct h1
  refine eF fo28_1 ?_
  refine eL sh3 ?_
  obtain ⟨x38, e38, h1⟩ := bnd_e h1
  refine eP (fun H hH => yv_to (y := boo x38) (yv_lss rfl rfl rfl) (congrArg boo e38)) ?_
  refine eP (fun H hH => yv_pick rfl rfl (fun _ => rfl) (fun _ => rfl) rfl) ?_
  refine de_eff0 rfl rfl rfl rfl (Yield.weak (yl_ob (ob' := (⟨28, 9, true, true, v6, [[int a2.Kind, int a1.E, int a2.Item, int a2.Loc, int a2.To, int a2.Qty, int a2.Amount, int a2.Ref, lst 1 fI a2.Refs]]⟩ : AObj)) (yl_store rfl sh28 rfl rfl rfl rfl rfl rfl rfl rfl rfl) rfl) (fun _ h => h) (fun _ _ => trivial)) (by rintro _ _ ⟨rfl, rfl⟩; exact ⟨rfl, trivial⟩) ?_; rintro _ _ ⟨rfl, rfl⟩
  refine eA ?_
  refine de_nil (hK _ ?_)
  exact lf h1 () leA
  rintro y5_1 _ h0
  obtain rfl := nxt_e h0
  refine wR hret (rC sh28 (rT .nil)) ?_
  exact .refl _
def d_ref04_SameInts_L0 (a1 : List Int) (a2 : List Int) : Nat → Int → Option ((Unit) ⊕ (Bool))
  | 0, _ => none
  | n + 1, y0_1 =>
    bnd (decide (y0_1 < (a1.length : Int))) fun x5 =>
    cond x5 ((ix a1 y0_1).bind fun x6 =>
    (ix a2 y0_1).bind fun x7 =>
    bnd (decide (x6 ≠ x7)) fun x8 =>
    cond x8 (esc (some ((false : Bool)))) (bnd (w64 (y0_1 + 1)) fun x9 =>
    d_ref04_SameInts_L0 a1 a2 n (x9 : Int))) (brk ())
def d_ref04_SameInts (n : Nat) (a1 : List Int) (a2 : List Int) : Option (Bool) :=
bnd (decide ((a1.length : Int) ≠ (a2.length : Int))) fun x3 =>
cond x3 (some ((false : Bool))) ((show Option ((Unit) ⊕ (Bool)) from
d_ref04_SameInts_L0 a1 a2 n (0 : Int)).bind <| sel <| fun _ =>
some ((true : Bool)))
theorem d_ref04_SameInts_c {n : Nat} {a1 : List Int} {a2 : List Int} {r : Bool} (h0 : d_ref04_SameInts n a1 a2 = some r) : PP Try.prog 49 [lst 1 fI a1, lst 1 fI a2] (fun y => y = boo r) := by
  unfold d_ref04_SameInts at h0
  refine pp_of_pc (R0 := fun y H => Cv (frzH H) y (boo r)) ?_ (fun y H hc => ⟨_, rfl, pvB r, hc⟩)
  refine pcw (c := _) Try.func49 rfl rfl ?_; intro Q hret hnorm
  refine tc tbk 8 (.mk ?_)
  refine sY (yv_len_sl rfl Try.underlying26 rfl (lst_len _)) ?_
  refine tr tbk 1 (.mk ?_)
  refine sY (yv_len_sl rfl Try.underlying26 rfl (lst_len _)) ?_
  refine nb tbk h0 fun x3 h0 => ?_
  refine tr tbk 1 (.mk ?_)
  cases x3
  replace h0 := cf h0
  refine tc tbk 7 (.mk ?_)
  refine jnE h0 [4] [] (fun (a : Unit) (k : Unit) => []) (fun a k => []) ⟨fun j4 h1 h0 => ?_, ?_⟩
  refine tc tbk 1 (.mk ?_)
  refine lp (fun n (a : Int) => d_ref04_SameInts_L0 a1 a2 n a) (0 : Int) () h1 [0, 1, 4] [] (fun (a : Int) (k : Unit) => [(5, int a)]) (fun a k => []) (fun _ => rfl) ⟨leA, ?_⟩
  rintro n y0_1 _ hm h1
  replace h1 : d_ref04_SameInts_L0 a1 a2 (n + 1) y0_1 = some _ := h1
  rw [d_ref04_SameInts_L0] at h1
  refine tc tbk 5 (.mk ?_)
  refine sY (yv_len_sl rfl Try.underlying26 rfl (lst_len _)) ?_
  refine nb tbk h1 fun x5 h1 => ?_
  refine tr tbk 1 (.mk ?_)
  cases x5
  replace h1 := cf h1
  refine tc tbk 2 (.mk ?_)
  exact lfE h1 () leA
  replace h1 := ct h1
  refine tc tbk 5 (.mk ?_)
  refine c_drawE [0, 0, 3, 7, 0, 0, 48, 112, 255] (fun i => []) (fun i => []) (fun i => true) [0, 1, 2, 3, 4, 5, 6, 7, 8] mixed (by kernel_rfl) ?_; intro K hK
  iterate 2 refine eM ?_
  obtain ⟨x6, e6, h1⟩ := bind_e h1
  refine eP (fun H hH => yv_ixT rfl Try.underlying26 sh3 rfl rfl e6) ?_
  refine eP (fun H hH => yv_load rfl sh3 rfl (.pp _) rfl) ?_
  iterate 2 refine eM ?_
  obtain ⟨x7, e7, h1⟩ := bind_e h1
  refine eP (fun H hH => yv_ixT rfl Try.underlying26 sh3 rfl rfl e7) ?_
  refine eP (fun H hH => yv_load rfl sh3 rfl (.pp _) rfl) ?_
  obtain ⟨x8, e8, h1⟩ := bnd_e h1
  refine eP (fun H hH => yv_to (y := boo x8) (yv_neq rfl rfl rfl) (congrArg boo e8)) ?_
  refine de_nil (hK _ ?_)
  cases x8
  replace h1 := cf h1
  refine tc tbk 5 (.mk ?_)
  refine ni tbk h1 fun x9 h1 => ?_
  refine tr tbk 2 (.mk ?_)
  exact bk x9 () h1 leA
  replace h1 := ct h1
  refine tc tbk 5 (.mk ?_)
  obtain ⟨c10, hX, hj⟩ := esc_e h1; subst hj; replace h0 := hX.trans (sel_r h0)
  obtain rfl := nxt_e h0
  refine wR hret (rT .nil) ?_
  exact .refl _
  rintro _ _ h0
  refine tc tbk 4 (.mk ?_)
  obtain rfl := nxt_e h0
  refine wR hret (rT .nil) ?_
  exact .refl _
  replace h0 := ct h0
  refine tc tbk 5 (.mk ?_)
  obtain rfl := nxt_e h0
  refine wR hret (rT .nil) ?_
  exact .refl _
def d_ref05_same (n : Nat) (a1 : GOp) (a2 : GOp) : Option (Bool) :=
(show Option (Bool) from
bnd (decide (a1.Kind = a2.Kind)) fun x6 =>
cond x6 (bnd (decide (a1.E = a2.E)) fun x7 =>
cond x7 (bnd (decide (a1.Item = a2.Item)) fun x8 =>
cond x8 (bnd (decide (a1.Loc = a2.Loc)) fun x9 =>
cond x9 (bnd (decide (a1.To = a2.To)) fun x10 =>
cond x10 (bnd (decide (a1.Qty = a2.Qty)) fun x11 =>
cond x11 (bnd (decide (a1.Amount = a2.Amount)) fun x12 =>
cond x12 (bnd (decide (a1.Ref = a2.Ref)) fun x13 =>
cond x13 ((d_ref04_SameInts n a1.Refs a2.Refs).bind fun x14 =>
some (x14 : Bool)) (some (false : Bool))) (some (false : Bool))) (some (false : Bool))) (some (false : Bool))) (some (false : Bool))) (some (false : Bool))) (some (false : Bool))) (some (false : Bool))).bind <| fun y0_1 =>
some ((y0_1 : Bool))
theorem d_ref05_same_c {n : Nat} {a1 : GOp} {a2 : GOp} {r : Bool} (h0 : d_ref05_same n a1 a2 = some r) : PP Try.prog 27 [.agg (GOp.av a1), .agg (GOp.av a2)] (fun y => y = boo r) := by
  unfold d_ref05_same at h0
  refine pp_of_pc (R0 := fun y H => Cv (frzH H) y (boo r)) ?_ (fun y H hc => ⟨_, rfl, pvB r, hc⟩)
  refine pcw (c := _) Try.func27 rfl rfl ?_; intro Q hret hnorm
  refine tc tbk 2 (.mk ?_)
  refine sB 1 fun v3 => ?_
  refine sB 2 fun v4 => ?_
  refine tr tbk 3 (.mk ?_)
  refine jn h0 [] [] (fun (a : Bool) (k : Unit) => [(4, boo a)]) (fun a k => []) ⟨fun j5 h1 => ?_, ?_⟩
  refine tc tbk 5 (.mk ?_)
  refine nb tbk h1 fun x6 h1 => ?_
  refine tr tbk 1 (.mk ?_)
  cases x6
  replace h1 := cf h1
  refine tr tbk 57 (.mk ?_)
  exact lf h1 () leA
  replace h1 := ct h1
  refine tr tbk 4 (.mk ?_)
  refine nb tbk h1 fun x7 h1 => ?_
  refine tr tbk 2 (.mk ?_)
  cases x7
  replace h1 := cf h1
  refine tr tbk 50 (.mk ?_)
  exact lf h1 () leA
  replace h1 := ct h1
  refine tr tbk 4 (.mk ?_)
  refine nb tbk h1 fun x8 h1 => ?_
  refine tr tbk 2 (.mk ?_)
  cases x8
  replace h1 := cf h1
  refine tr tbk 43 (.mk ?_)
  exact lf h1 () leA
  replace h1 := ct h1
  refine tr tbk 4 (.mk ?_)
  refine nb tbk h1 fun x9 h1 => ?_
  refine tr tbk 2 (.mk ?_)
  cases x9
  replace h1 := cf h1
  refine tr tbk 36 (.mk ?_)
  exact lf h1 () leA
  replace h1 := ct h1
  refine tr tbk 4 (.mk ?_)
  refine nb tbk h1 fun x10 h1 => ?_
  refine tr tbk 2 (.mk ?_)
  cases x10
  replace h1 := cf h1
  refine tr tbk 29 (.mk ?_)
  exact lf h1 () leA
  replace h1 := ct h1
  refine tr tbk 4 (.mk ?_)
  refine nb tbk h1 fun x11 h1 => ?_
  refine tr tbk 2 (.mk ?_)
  cases x11
  replace h1 := cf h1
  refine tr tbk 22 (.mk ?_)
  exact lf h1 () leA
  replace h1 := ct h1
  refine tr tbk 4 (.mk ?_)
  refine nb tbk h1 fun x12 h1 => ?_
  refine tr tbk 2 (.mk ?_)
  cases x12
  replace h1 := cf h1
  refine tr tbk 15 (.mk ?_)
  exact lf h1 () leA
  replace h1 := ct h1
  refine tr tbk 4 (.mk ?_)
  refine nb tbk h1 fun x13 h1 => ?_
  refine tr tbk 2 (.mk ?_)
  cases x13
  replace h1 := cf h1
  refine tr tbk 8 (.mk ?_)
  exact lf h1 () leA
  replace h1 := ct h1
  refine tr tbk 4 (.mk ?_)
  obtain ⟨x14, e14, h1⟩ := bind_e h1
  refine sC cal49 (d_ref04_SameInts_c e14) ?_
  refine tr tbk 3 (.mk ?_)
  exact lf h1 () leA
  rintro y0_1 _ h0
  obtain rfl := nxt_e h0
  refine wR hret (rT .nil) ?_
  exact .refl _
def d_ref05_Check_L0 (a1 : GOp) (x3 : (List UInt8)) : Nat → Int → GOp → Option ((GOp) ⊕ (Bool))
  | 0, _, _ => none
  | n + 1, y0_1, y0_2 =>
    bnd (decide (y0_1 < (x3.length : Int))) fun x6 =>
    cond x6 ((ix x3 y0_1).bind fun x7 =>
    (d_ref05_part n a1 y0_2 (x7.toNat : Int)).bind fun x8 =>
    bnd x8.2 fun x10 =>
    bnd (!x10) fun x11 =>
    cond x11 (esc (some ((false : Bool)))) (bnd (w64 (y0_1 + 1)) fun x12 =>
    d_ref05_Check_L0 a1 x3 n (x12 : Int) (x8.1 : GOp))) (brk (y0_2 : GOp))
def d_ref05_Check (n : Nat) (a1 : GOp) : Option (Bool) :=
(d_ref05_has a1.Kind).bind fun x3 =>
(show Option ((GOp) ⊕ (Bool)) from
d_ref05_Check_L0 a1 x3 n (0 : Int) ((⟨a1.Kind, 0, 0, 0, 0, 0, 0, 0, []⟩ : GOp) : GOp)).bind <| sel <| fun y1_1 =>
(show Option (Bool) from
bnd (decide (x3 ≠ ([] : List UInt8))) fun x15 =>
cond x15 ((d_ref05_same n a1 y1_1).bind fun x16 =>
some (x16 : Bool)) (some (false : Bool))).bind <| fun y2_1 =>
some ((y2_1 : Bool))
theorem d_ref05_Check_c {n : Nat} {a1 : GOp} {r : Bool} (h0 : d_ref05_Check n a1 = some r) : PP Try.prog 9 [.agg (GOp.av a1)] (fun y => y = boo r) := by
  unfold d_ref05_Check at h0
  refine pp_of_pc (R0 := fun y H => Cv (frzH H) y (boo r)) ?_ (fun y H hc => ⟨_, rfl, pvB r, hc⟩)
  refine pcw (c := _) Try.func9 rfl rfl ?_; intro Q hret hnorm
  refine tc tbk 2 (.mk ?_)
  refine sB 1 fun v2 => ?_
  refine tr tbk 6 (.mk ?_)
  obtain ⟨x3, e3, h0⟩ := bind_e h0
  refine sC cal25 (d_ref05_has_c e3) ?_
  refine tr tbk 6 (.mk ?_)
  refine sY (yv_build (cs := [int a1.Kind, int 0, int 0, int 0, int 0, int 0, int 0, int 0, .sc (.slice none 0 0)]) (ps := [(0, _)]) rfl pl28 z28 rfl (.cons rfl .nil) (by kernel_rfl)) ?_
  refine sA 2 z28 fun v4 => ?_
  refine sS ⟨28, 9, true, true, v4, [[int a1.Kind, int 0, int 0, int 0, int 0, int 0, int 0, int 0, .sc (.slice none 0 0)]]⟩ sh28 ?_
  refine tr tbk 6 (.mk ?_)
  refine jnE h0 [1, 2, 3, 4] [1] (fun (a : GOp) (k : Unit) => []) (fun a k => [(2, ⟨28, 9, true, true, v4, [[int a.Kind, int a.E, int a.Item, int a.Loc, int a.To, int a.Qty, int a.Amount, int a.Ref, lst 1 fI a.Refs]]⟩)]) ⟨fun j5 h1 h0 => ?_, ?_⟩
  refine tc tbk 1 (.mk ?_)
  refine lp (fun n (a : Int × GOp) => d_ref05_Check_L0 a1 x3 n a.1 a.2) ((0 : Int), ((⟨a1.Kind, 0, 0, 0, 0, 0, 0, 0, []⟩ : GOp) : GOp)) () h1 [1, 2, 3, 4] [1] (fun (a : Int × GOp) (k : Unit) => [(5, int a.1)]) (fun a k => [(2, ⟨28, 9, true, true, v4, [[int a.2.Kind, int a.2.E, int a.2.Item, int a.2.Loc, int a.2.To, int a.2.Qty, int a.2.Amount, int a.2.Ref, lst 1 fI a.2.Refs]]⟩)]) (fun _ => rfl) ⟨leH_kn ⟨⟨_, rfl, (.refl _)⟩, ⟨_, rfl, (.refl _)⟩, ⟨_, rfl, (.refl _)⟩, ⟨_, rfl, (.refl _)⟩, ⟨_, rfl, (.refl _)⟩, trivial⟩ ⟨⟨_, rfl, ⟨rfl, (.cons (.cons (.refl _) (.cons (.refl _) (.cons (.refl _) (.cons (.refl _) (.cons (.refl _) (.cons (.refl _) (.cons (.refl _) (.cons (.refl _) (.cons (.nil _) .nil))))))))) .nil)⟩⟩, ⟨_, rfl, (.refl _)⟩, trivial⟩, ?_⟩
  rintro n ⟨y0_1, y0_2⟩ _ hm h1
  replace h1 : d_ref05_Check_L0 a1 x3 (n + 1) y0_1 y0_2 = some _ := h1
  rw [d_ref05_Check_L0] at h1
  refine tc tbk 5 (.mk ?_)
  refine sY (yv_len_str rfl Try.underlying9 rfl) ?_
  refine nb tbk h1 fun x6 h1 => ?_
  refine tr tbk 1 (.mk ?_)
  cases x6
  replace h1 := cf h1
  refine tc tbk 2 (.mk ?_)
  exact lfE h1 () leA
  replace h1 := ct h1
  refine tc tbk 5 (.mk ?_)
  refine c_drawE [0, 0, 0, 0, 12, 31, 63, 127, 127, 0, 767, 2047] (rl [(0, [1]), (1, [2])] []) (rl [(10, [])] [1, 2]) (rl [(9, false), (10, false)] true) [0, 1, 2, 3, 4, 5, 6, 7, 8, 9, 10, 11] mixed (by kernel_rfl) ?_; intro K hK
  refine eL sh28 ?_
  refine eL sh28 ?_
  iterate 2 refine eM ?_
  obtain ⟨x7, e7, h1⟩ := bind_e h1
  refine eP (fun H hH => yv_index_str rfl Try.underlying9 rfl rfl (ix_e e7).1 (ix_e e7).2) ?_
  obtain ⟨x8, e8, h1⟩ := bind_e h1
  refine eP (fun H hH => yv_callP rfl rfl (.cons rfl (.cons rfl (.cons rfl .nil))) cal26 (CvL.refl _) (d_ref05_part_c e8)) ?_
  refine eM ?_
  iterate 2 refine eX ?_
  refine de_eff rfl rfl rfl rfl (yl_alloc 3 .any rfl z28 rfl) (by rintro _ _ ⟨v9, -, rfl, rfl⟩; exact ⟨rfl, rfl, trivial⟩) ?_; rintro _ _ ⟨v9, -, rfl, rfl⟩
  refine de_eff0 rfl rfl rfl rfl (Yield.weak (yl_ob (ob' := (⟨28, 9, true, true, v9, [[int x8.1.Kind, int x8.1.E, int x8.1.Item, int x8.1.Loc, int x8.1.To, int x8.1.Qty, int x8.1.Amount, int x8.1.Ref, lst 1 fI x8.1.Refs]]⟩ : AObj)) (yl_store rfl sh28 rfl rfl rfl rfl rfl rfl rfl rfl rfl) rfl) (fun _ h => h) (fun _ _ => trivial)) (by rintro _ _ ⟨rfl, rfl⟩; exact trivial) ?_; rintro _ _ ⟨rfl, rfl⟩
  obtain ⟨x10, e10, h1⟩ := bnd_e h1
  refine eP (fun H hH => yv_to (y := boo x10) (yv_assign rfl rfl) (congrArg boo e10)) ?_
  refine de_nil (hK _ ?_)
  refine tc tbk 4 (.mk ?_)
  refine nb tbk h1 fun x11 h1 => ?_
  refine tr tbk 1 (.mk ?_)
  cases x11
  replace h1 := cf h1
  refine tc tbk 4 (.mk ?_)
  refine sS ⟨28, 9, true, true, v4, [[int x8.1.Kind, int x8.1.E, int x8.1.Item, int x8.1.Loc, int x8.1.To, int x8.1.Qty, int x8.1.Amount, int x8.1.Ref, lst 1 fI x8.1.Refs]]⟩ sh28 ?_
  refine tr tbk 4 (.mk ?_)
  refine ni tbk h1 fun x12 h1 => ?_
  refine tr tbk 2 (.mk ?_)
  exact bk (x12, x8.1) () h1 leA
  replace h1 := ct h1
  refine tc tbk 5 (.mk ?_)
  obtain ⟨c13, hX, hj⟩ := esc_e h1; subst hj; replace h0 := hX.trans (sel_r h0)
  obtain rfl := nxt_e h0
  refine wR hret (rT .nil) ?_
  exact .refl _
  rintro y1_1 _ h0
  refine tc tbk 1 (.mk ?_)
  refine jn h0 [] [] (fun (a : Bool) (k : Unit) => [(2, boo a)]) (fun a k => []) ⟨fun j14 h1 => ?_, ?_⟩
  refine tc tbk 2 (.mk ?_)
  obtain ⟨x15, e15, h1⟩ := bnd_e h1
  refine sY (yv_to (y := boo x15) (yv_sneq rfl rfl rfl) (congrArg boo e15)) ?_
  refine tr tbk 1 (.mk ?_)
  cases x15
  replace h1 := cf h1
  refine tr tbk 6 (.mk ?_)
  exact lf h1 () leA
  replace h1 := ct h1
  refine tr tbk 2 (.mk ?_)
  obtain ⟨x16, e16, h1⟩ := bind_e h1
  refine sC cal27 (d_ref05_same_c e16) ?_
  refine tr tbk 3 (.mk ?_)
  exact lf h1 () leA
  rintro y2_1 _ h0
  obtain rfl := nxt_e h0
  refine wR hret (rT .nil) ?_
  exact .refl _
def d_ref05_Read_L1 (x19 : (List UInt8)) : Nat → Int → GR → GOp → Option (GR × GOp)
  | 0, _, _, _ => none
  | n + 1, y2_1, y2_2, y2_3 =>
    bnd (decide (y2_1 < (x19.length : Int))) fun x21 =>
    cond x21 ((show Option (GR × GOp) from
    (ix x19 y2_1).bind fun x23 =>
    bnd (decide ((x23.toNat : Int) = 101)) fun x24 =>
    cond x24 (asrt (((y2_2.S, y2_2.Bad) : RS).1.length ≤ 9223372036854775806) <|
    bnd (numV ((y2_2.S, y2_2.Bad) : RS)) fun x54 =>
    bnd (numR ((y2_2.S, y2_2.Bad) : RS)) fun x55 =>
    some (((⟨x55.1, x55.2⟩ : GR) : GR), ((⟨y2_3.Kind, x54, y2_3.Item, y2_3.Loc, y2_3.To, y2_3.Qty, y2_3.Amount, y2_3.Ref, y2_3.Refs⟩ : GOp) : GOp))) (bnd (decide ((x23.toNat : Int) = 105)) fun x25 =>
    cond x25 (asrt (((y2_2.S, y2_2.Bad) : RS).1.length ≤ 9223372036854775806) <|
    bnd (numV ((y2_2.S, y2_2.Bad) : RS)) fun x51 =>
    bnd (numR ((y2_2.S, y2_2.Bad) : RS)) fun x52 =>
    some (((⟨x52.1, x52.2⟩ : GR) : GR), ((⟨y2_3.Kind, y2_3.E, x51, y2_3.Loc, y2_3.To, y2_3.Qty, y2_3.Amount, y2_3.Ref, y2_3.Refs⟩ : GOp) : GOp))) (bnd (decide ((x23.toNat : Int) = 108)) fun x26 =>
    cond x26 (asrt (((y2_2.S, y2_2.Bad) : RS).1.length ≤ 9223372036854775806) <|
    bnd (numV ((y2_2.S, y2_2.Bad) : RS)) fun x48 =>
    bnd (numR ((y2_2.S, y2_2.Bad) : RS)) fun x49 =>
    some (((⟨x49.1, x49.2⟩ : GR) : GR), ((⟨y2_3.Kind, y2_3.E, y2_3.Item, x48, y2_3.To, y2_3.Qty, y2_3.Amount, y2_3.Ref, y2_3.Refs⟩ : GOp) : GOp))) (bnd (decide ((x23.toNat : Int) = 116)) fun x27 =>
    cond x27 (asrt (((y2_2.S, y2_2.Bad) : RS).1.length ≤ 9223372036854775806) <|
    bnd (numV ((y2_2.S, y2_2.Bad) : RS)) fun x45 =>
    bnd (numR ((y2_2.S, y2_2.Bad) : RS)) fun x46 =>
    some (((⟨x46.1, x46.2⟩ : GR) : GR), ((⟨y2_3.Kind, y2_3.E, y2_3.Item, y2_3.Loc, x45, y2_3.Qty, y2_3.Amount, y2_3.Ref, y2_3.Refs⟩ : GOp) : GOp))) (bnd (decide ((x23.toNat : Int) = 113)) fun x28 =>
    cond x28 (asrt (((y2_2.S, y2_2.Bad) : RS).1.length ≤ 9223372036854775806) <|
    bnd (numV ((y2_2.S, y2_2.Bad) : RS)) fun x42 =>
    bnd (numR ((y2_2.S, y2_2.Bad) : RS)) fun x43 =>
    some (((⟨x43.1, x43.2⟩ : GR) : GR), ((⟨y2_3.Kind, y2_3.E, y2_3.Item, y2_3.Loc, y2_3.To, x42, y2_3.Amount, y2_3.Ref, y2_3.Refs⟩ : GOp) : GOp))) (bnd (decide ((x23.toNat : Int) = 97)) fun x29 =>
    cond x29 (asrt (((y2_2.S, y2_2.Bad) : RS).1.length ≤ 9223372036854775806) <|
    bnd (numV ((y2_2.S, y2_2.Bad) : RS)) fun x39 =>
    bnd (numR ((y2_2.S, y2_2.Bad) : RS)) fun x40 =>
    some (((⟨x40.1, x40.2⟩ : GR) : GR), ((⟨y2_3.Kind, y2_3.E, y2_3.Item, y2_3.Loc, y2_3.To, y2_3.Qty, x39, y2_3.Ref, y2_3.Refs⟩ : GOp) : GOp))) (bnd (decide ((x23.toNat : Int) = 114)) fun x30 =>
    cond x30 (asrt (((y2_2.S, y2_2.Bad) : RS).1.length ≤ 9223372036854775806) <|
    bnd (numV ((y2_2.S, y2_2.Bad) : RS)) fun x36 =>
    bnd (numR ((y2_2.S, y2_2.Bad) : RS)) fun x37 =>
    some (((⟨x37.1, x37.2⟩ : GR) : GR), ((⟨y2_3.Kind, y2_3.E, y2_3.Item, y2_3.Loc, y2_3.To, y2_3.Qty, y2_3.Amount, x36, y2_3.Refs⟩ : GOp) : GOp))) (asrt (((y2_2.S, y2_2.Bad) : RS).1.length ≤ 1099511627776) <|
    asrt (((y2_2.S, y2_2.Bad) : RS).2 = true → ((y2_2.S, y2_2.Bad) : RS).1 = []) <|
    bnd (lstV ((y2_2.S, y2_2.Bad) : RS) 40) fun x33 =>
    bnd (lstR ((y2_2.S, y2_2.Bad) : RS) 40) fun x34 =>
    some (((⟨x34.1, x34.2⟩ : GR) : GR), ((⟨y2_3.Kind, y2_3.E, y2_3.Item, y2_3.Loc, y2_3.To, y2_3.Qty, y2_3.Amount, y2_3.Ref, x33⟩ : GOp) : GOp)))))))))).bind <| p2 fun (y3_1 : GR) (y3_2 : GOp) =>
    bnd (w64 (y2_1 + 1)) fun x56 =>
    d_ref05_Read_L1 x19 n (x56 : Int) (y3_1 : GR) (y3_2 : GOp)) (some ((y2_2 : GR), (y2_3 : GOp)))
def d_ref05_Read_L0 (x6 : Int) : Nat → Int → GR → (List GOp) → Option (GR × (List GOp))
  | 0, _, _, _ => none
  | n + 1, y0_2, y0_3, y0_4 =>
    (show Option (Bool) from
    bnd (decide (y0_2 < x6)) fun x11 =>
    cond x11 (bnd (!y0_3.Bad) fun x12 =>
    some (x12 : Bool)) (some (false : Bool))).bind <| fun y1_1 =>
    cond y1_1 ((show Option ((GOp × GR)) from
    asrt (((y0_3.S, y0_3.Bad) : RS).1.length ≤ 9223372036854775806) <|
    bnd (numV ((y0_3.S, y0_3.Bad) : RS)) fun x16 =>
    bnd (numR ((y0_3.S, y0_3.Bad) : RS)) fun x17 =>
    (d_ref05_has x16).bind fun x19 =>
    (show Option (GR × GOp) from
    d_ref05_Read_L1 x19 n (0 : Int) ((⟨x17.1, x17.2⟩ : GR) : GR) ((⟨x16, 0, 0, 0, 0, 0, 0, 0, []⟩ : GOp) : GOp)).bind <| p2 fun (y4_1 : GR) (y4_2 : GOp) =>
    (d_ref05_Check n y4_2).bind fun x57 =>
    bnd (!x57) fun x58 =>
    (show Option (GR) from
    cond x58 ((show Option ((Unit)) from
    some ()).bind <| fun _ =>
    some ((⟨([] : List UInt8), true⟩ : GR) : GR)) (some (y4_1 : GR))).bind <| fun y6_1 =>
    some ((y4_2 : GOp), (y6_1 : GR))).bind <| p2 fun (y7_1 : GOp) (y7_2 : GR) =>
    bnd (y0_4 ++ ([y7_1] : List GOp)) fun x61 =>
    asrt (x61.length ≤ 68719476736) <|
    bnd (w64 (y0_2 + 1)) fun x64 =>
    d_ref05_Read_L0 x6 n (x64 : Int) (y7_2 : GR) (x61 : List GOp)) (some ((y0_3 : GR), (y0_4 : List GOp)))
def d_ref05_Read (n : Nat) (a1 : List UInt8) : Option ((List GOp) × Int) :=
bnd (decide ((a1.length : Int) > 131072)) fun x2 =>
asrt (x2 = false) <|
asrt (((a1, false) : RS).1.length ≤ 9223372036854775806) <|
asrt (((a1, false) : RS).2 = true → ((a1, false) : RS).1 = []) <|
bnd (cntV ((a1, false) : RS) 400) fun x6 =>
bnd (cntR ((a1, false) : RS) 400) fun x7 =>
(show Option (GR × (List GOp)) from
d_ref05_Read_L0 x6 n (0 : Int) ((⟨x7.1, x7.2⟩ : GR) : GR) (([] : List GOp) : List GOp)).bind <| p2 fun (y9_2 : GR) (y9_3 : List GOp) =>
(show Option ((Bool)) from
(show Option (Bool) from
bnd (!y9_2.Bad) fun x67 =>
cond x67 (bnd (decide (y9_2.S = ([] : List UInt8))) fun x68 =>
some (x68 : Bool)) (some (false : Bool))).bind <| fun y10_1 =>
some (y10_1 : Bool)).bind <| fun y11_1 =>
bnd (!y11_1) fun x69 =>
cond x69 (some (([] : List GOp), (3 : Int))) (some ((y9_3 : List GOp), (0 : Int)))
theorem d_ref05_Read_c {n : Nat} {a1 : List UInt8} {r : (List GOp) × Int} (h0 : d_ref05_Read n a1 = some r) : PP Try.prog 11 [str a1] (fun y => y = .tup [lst 9 GOp.av r.1, int r.2]) := by
  unfold d_ref05_Read at h0
  refine pp_of_pc (R0 := fun y H => Cv (frzH H) y (.tup [lst 9 GOp.av r.1, int r.2])) ?_ (fun y H hc => ⟨_, rfl, .tup (pvl2 ((pvLs GOp.pvc) (r.1)) (pvI (r.2))), hc⟩)
  refine pcw (c := _) Try.func11 rfl rfl ?_; intro Q hret hnorm
  refine tc tbk 9 (.mk ?_)
  refine sY (yv_len_str rfl Try.underlying9 rfl) ?_
  refine nb tbk h0 fun x2 h0 => ?_
  refine tr tbk 1 (.mk ?_)
  replace h0 := asrt_e h0
  obtain ⟨rfl, h0⟩ := h0
  refine tc tbk 6 (.mk ?_)
  refine sB 1 fun v3 => ?_
  refine tr tbk 5 (.mk ?_)
  obtain ⟨p4, h0⟩ := asrt_e h0
  obtain ⟨p5, h0⟩ := asrt_e h0
  obtain ⟨x6, e6, h0⟩ := bnd_e h0
  obtain ⟨x7, e7, h0⟩ := bnd_e h0
  refine rse rfl rfl rfl (yl_call rfl rfl (.cons rfl (.cons rfl .nil)) cal34 (PC.mono (countR_c (most := 400) (s := ((a1, false) : RS)) (id := 1) (ver := v3) rfl p4 p5) (R' := fun y H' => y = int x6 ∧ H' = upd _ 1 (some (rdr 66 v3 x7))) (fun y H' h => ⟨h.1.trans (congrArg int e6), h.2.trans (rdr_cong e7)⟩))) ?_; rintro _ _ ⟨rfl, rfl⟩
  refine tr tbk 11 (.mk ?_)
  refine jn h0 [2, 3, 4] [] (fun (a : GR × (List GOp)) (k : Nat) => [(6, .sl 5 k 0 a.2.length)]) (fun a k => [(1, ⟨66, 2, true, true, v3, [[str a.1.S, boo a.1.Bad]]⟩), (5, ⟨28, 9, true, true, k, a.2.map GOp.av⟩)]) ⟨fun j8 h1 => ?_, ?_⟩
  refine tc tbk 1 (.mk ?_)
  refine c_nilobj 6 5 28 9 rfl rfl ?_; intro v9
  refine lp (fun n (a : Int × GR × (List GOp)) => d_ref05_Read_L0 x6 n a.1 a.2.1 a.2.2) ((0 : Int), ((⟨x7.1, x7.2⟩ : GR) : GR), (([] : List GOp) : List GOp)) v9 h1 [2, 3, 4, 5] [] (fun (a : Int × GR × (List GOp)) (k : Nat) => [(6, .sl 5 k 0 a.2.2.length), (7, int a.1)]) (fun a k => [(1, ⟨66, 2, true, true, v3, [[str a.2.1.S, boo a.2.1.Bad]]⟩), (5, ⟨28, 9, true, true, k, a.2.2.map GOp.av⟩)]) (fun _ => rfl) ⟨leA, ?_⟩
  rintro n ⟨y0_2, y0_3, y0_4⟩ w0_1 hm h1
  replace h1 : d_ref05_Read_L0 x6 (n + 1) y0_2 y0_3 y0_4 = some _ := h1
  rw [d_ref05_Read_L0] at h1
  refine tc tbk 2 (.mk ?_)
  refine jn h1 [2, 3, 4, 5, 6, 7] [1, 5] (fun (a : Bool) (k : Unit) => [(25, boo a)]) (fun a k => []) ⟨fun j10 h2 => ?_, ?_⟩
  refine tc tbk 3 (.mk ?_)
  refine nb tbk h2 fun x11 h2 => ?_
  refine tr tbk 1 (.mk ?_)
  cases x11
  replace h2 := cf h2
  refine tr tbk 7 (.mk ?_)
  exact lf h2 () leA
  replace h2 := ct h2
  refine tr tbk 4 (.mk ?_)
  refine nb tbk h2 fun x12 h2 => ?_
  refine tr tbk 2 (.mk ?_)
  exact lf h2 () leA
  rintro y1_1 _ h1
  cases y1_1
  replace h1 := cf h1
  refine tc tbk 2 (.mk ?_)
  exact lf h1 w0_1 leA
  replace h1 := ct h1
  refine tc tbk 7 (.mk ?_)
  obtain ⟨j13, h2, h1⟩ := bind_e h1
  refine rse (Out := fun y H' => (∃ (a : GOp × GR) (k : Unit), a = j13 ∧ y = .agg [int a.1.Kind, int a.1.E, int a.1.Item, int a.1.Loc, int a.1.To, int a.1.Qty, int a.1.Amount, int a.1.Ref, lst 1 fI a.1.Refs] ∧ H' = hk [(1, ⟨66, 2, true, true, v3, [[str a.2.S, boo a.2.Bad]]⟩), (5, ⟨28, 9, true, true, w0_1, y0_4.map GOp.av⟩)])) rfl rfl rfl (yl_call rfl rfl (.cons rfl .nil) cal35 ?_) ?_
  refine pcw (c := _) Try.func35 rfl rfl ?_; intro Q hret hnorm
  refine tc tbk 2 (.mk ?_)
  refine sA 2 z28 fun v14 => ?_
  refine tr tbk 4 (.mk ?_)
  obtain ⟨p15, h2⟩ := asrt_e h2
  obtain ⟨x16, e16, h2⟩ := bnd_e h2
  obtain ⟨x17, e17, h2⟩ := bnd_e h2
  refine rse rfl rfl rfl (yl_call rfl rfl (.cons rfl .nil) cal52 (PC.mono (numR_c (s := ((y0_3.S, y0_3.Bad) : RS)) (id := 1) (ver := v3) rfl p15) (R' := fun y H' => y = int x16 ∧ H' = upd _ 1 (some (rdr 66 v3 x17))) (fun y H' h => ⟨h.1.trans (congrArg int e16), h.2.trans (rdr_cong e17)⟩))) ?_; rintro _ _ ⟨rfl, rfl⟩
  refine sY (yv_build (cs := [int x16, int 0, int 0, int 0, int 0, int 0, int 0, int 0, .sc (.slice none 0 0)]) (ps := [(0, _)]) rfl pl28 z28 rfl (.cons rfl .nil) (by kernel_rfl)) ?_
  refine sA 3 z28 fun v18 => ?_
  refine sS ⟨28, 9, true, true, v18, [[int x16, int 0, int 0, int 0, int 0, int 0, int 0, int 0, .sc (.slice none 0 0)]]⟩ sh28 ?_
  refine tr tbk 5 (.mk ?_)
  obtain ⟨x19, e19, h2⟩ := bind_e h2
  refine sC cal25 (d_ref05_has_c e19) ?_
  refine tr tbk 7 (.mk ?_)
  refine jn h2 [0, 2, 3] [2, 5] (fun (a : GR × GOp) (k : Unit) => []) (fun a k => [(1, ⟨66, 2, true, true, v3, [[str a.1.S, boo a.1.Bad]]⟩), (3, ⟨28, 9, true, true, v18, [[int a.2.Kind, int a.2.E, int a.2.Item, int a.2.Loc, int a.2.To, int a.2.Qty, int a.2.Amount, int a.2.Ref, lst 1 fI a.2.Refs]]⟩)]) ⟨fun j20 h3 => ?_, ?_⟩
  refine tc tbk 1 (.mk ?_)
  refine lp (fun n (a : Int × GR × GOp) => d_ref05_Read_L1 x19 n a.1 a.2.1 a.2.2) ((0 : Int), ((⟨x17.1, x17.2⟩ : GR) : GR), ((⟨x16, 0, 0, 0, 0, 0, 0, 0, []⟩ : GOp) : GOp)) () h3 [0, 2, 3, 4] [2, 5] (fun (a : Int × GR × GOp) (k : Unit) => [(5, int a.1)]) (fun a k => [(1, ⟨66, 2, true, true, v3, [[str a.2.1.S, boo a.2.1.Bad]]⟩), (3, ⟨28, 9, true, true, v18, [[int a.2.2.Kind, int a.2.2.E, int a.2.2.Item, int a.2.2.Loc, int a.2.2.To, int a.2.2.Qty, int a.2.2.Amount, int a.2.2.Ref, lst 1 fI a.2.2.Refs]]⟩)]) (fun _ => rfl) ⟨leH_kn ⟨⟨_, rfl, (.refl _)⟩, ⟨_, rfl, (.refl _)⟩, ⟨_, rfl, (.refl _)⟩, ⟨_, rfl, (.refl _)⟩, ⟨_, rfl, (.refl _)⟩, trivial⟩ ⟨⟨_, rfl, (.refl _)⟩, ⟨_, rfl, ⟨rfl, (.cons (.cons (.refl _) (.cons (.refl _) (.cons (.refl _) (.cons (.refl _) (.cons (.refl _) (.cons (.refl _) (.cons (.refl _) (.cons (.refl _) (.cons (.nil _) .nil))))))))) .nil)⟩⟩, ⟨_, rfl, (.refl _)⟩, ⟨_, rfl, (.refl _)⟩, trivial⟩, ?_⟩
  rintro n ⟨y2_1, y2_2, y2_3⟩ _ hm h3
  replace h3 : d_ref05_Read_L1 x19 (n + 1) y2_1 y2_2 y2_3 = some _ := h3
  rw [d_ref05_Read_L1] at h3
  refine tc tbk 5 (.mk ?_)
  refine sY (yv_len_str rfl Try.underlying9 rfl) ?_
  refine nb tbk h3 fun x21 h3 => ?_
  refine tr tbk 1 (.mk ?_)
  cases x21
  replace h3 := cf h3
  refine tc tbk 2 (.mk ?_)
  exact lf h3 () leA
  replace h3 := ct h3
  refine tc tbk 3 (.mk ?_)
  refine jn h3 [0, 2, 3, 4, 5] [2, 5] (fun (a : GR × GOp) (k : Unit) => []) (fun a k => [(1, ⟨66, 2, true, true, v3, [[str a.1.S, boo a.1.Bad]]⟩), (3, ⟨28, 9, true, true, v18, [[int a.2.Kind, int a.2.E, int a.2.Item, int a.2.Loc, int a.2.To, int a.2.Qty, int a.2.Amount, int a.2.Ref, lst 1 fI a.2.Refs]]⟩)]) ⟨fun j22 h4 => ?_, ?_⟩
  refine tc tbk 5 (.mk ?_)
  obtain ⟨x23, e23, h4⟩ := bind_e h4
  refine sY (yv_index_str rfl Try.underlying9 rfl rfl (ix_e e23).1 (ix_e e23).2) ?_
  refine tr tbk 4 (.mk ?_)
  refine nb tbk h4 fun x24 h4 => ?_
  refine tr tbk 2 (.mk ?_)
  cases x24
  replace h4 := cf h4
  refine tc tbk 3 (.mk ?_)
  refine nb tbk h4 fun x25 h4 => ?_
  refine tr tbk 2 (.mk ?_)
  cases x25
  replace h4 := cf h4
  refine tc tbk 3 (.mk ?_)
  refine nb tbk h4 fun x26 h4 => ?_
  refine tr tbk 2 (.mk ?_)
  cases x26
  replace h4 := cf h4
  refine tc tbk 3 (.mk ?_)
  refine nb tbk h4 fun x27 h4 => ?_
  refine tr tbk 2 (.mk ?_)
  cases x27
  replace h4 := cf h4
  refine tc tbk 3 (.mk ?_)
  refine nb tbk h4 fun x28 h4 => ?_
  refine tr tbk 2 (.mk ?_)
  cases x28
  replace h4 := cf h4
  refine tc tbk 3 (.mk ?_)
  refine nb tbk h4 fun x29 h4 => ?_
  refine tr tbk 2 (.mk ?_)
  cases x29
  replace h4 := cf h4
  refine tc tbk 3 (.mk ?_)
  refine nb tbk h4 fun x30 h4 => ?_
  refine tr tbk 2 (.mk ?_)
  cases x30
  replace h4 := cf h4
  refine tc tbk 3 (.mk ?_)
  obtain ⟨p31, h4⟩ := asrt_e h4
  obtain ⟨p32, h4⟩ := asrt_e h4
  obtain ⟨x33, e33, h4⟩ := bnd_e h4
  obtain ⟨x34, e34, h4⟩ := bnd_e h4
  refine rse rfl rfl rfl (yl_call rfl rfl (.cons rfl (.cons rfl .nil)) cal54 (PC.mono (listR_c (most := 40) (s := ((y2_2.S, y2_2.Bad) : RS)) (id := 1) (ver := v3) rfl p31 p32 rfl) (R' := fun y H' => y = ints x33 ∧ H' = upd _ 1 (some (rdr 66 v3 x34))) (fun y H' h => ⟨h.1.trans (congrArg ints e33), h.2.trans (rdr_cong e34)⟩))) ?_; rintro _ _ ⟨rfl, rfl⟩
  refine tr tbk 1 (.mk ?_)
  refine sS ⟨28, 9, true, true, v18, [[int y2_3.Kind, int y2_3.E, int y2_3.Item, int y2_3.Loc, int y2_3.To, int y2_3.Qty, int y2_3.Amount, int y2_3.Ref, lst 1 fI x33]]⟩ sh26 ?_
  refine tr tbk 3 (.mk ?_)
  exact lf h4 () leA
  replace h4 := ct h4
  refine tc tbk 3 (.mk ?_)
  obtain ⟨p35, h4⟩ := asrt_e h4
  obtain ⟨x36, e36, h4⟩ := bnd_e h4
  obtain ⟨x37, e37, h4⟩ := bnd_e h4
  refine rse rfl rfl rfl (yl_call rfl rfl (.cons rfl .nil) cal52 (PC.mono (numR_c (s := ((y2_2.S, y2_2.Bad) : RS)) (id := 1) (ver := v3) rfl p35) (R' := fun y H' => y = int x36 ∧ H' = upd _ 1 (some (rdr 66 v3 x37))) (fun y H' h => ⟨h.1.trans (congrArg int e36), h.2.trans (rdr_cong e37)⟩))) ?_; rintro _ _ ⟨rfl, rfl⟩
  refine tr tbk 1 (.mk ?_)
  refine sS ⟨28, 9, true, true, v18, [[int y2_3.Kind, int y2_3.E, int y2_3.Item, int y2_3.Loc, int y2_3.To, int y2_3.Qty, int y2_3.Amount, int x36, lst 1 fI y2_3.Refs]]⟩ sh3 ?_
  refine tr tbk 3 (.mk ?_)
  exact lf h4 () leA
  replace h4 := ct h4
  refine tc tbk 3 (.mk ?_)
  obtain ⟨p38, h4⟩ := asrt_e h4
  obtain ⟨x39, e39, h4⟩ := bnd_e h4
  obtain ⟨x40, e40, h4⟩ := bnd_e h4
  refine rse rfl rfl rfl (yl_call rfl rfl (.cons rfl .nil) cal52 (PC.mono (numR_c (s := ((y2_2.S, y2_2.Bad) : RS)) (id := 1) (ver := v3) rfl p38) (R' := fun y H' => y = int x39 ∧ H' = upd _ 1 (some (rdr 66 v3 x40))) (fun y H' h => ⟨h.1.trans (congrArg int e39), h.2.trans (rdr_cong e40)⟩))) ?_; rintro _ _ ⟨rfl, rfl⟩
  refine tr tbk 1 (.mk ?_)
  refine sS ⟨28, 9, true, true, v18, [[int y2_3.Kind, int y2_3.E, int y2_3.Item, int y2_3.Loc, int y2_3.To, int y2_3.Qty, int x39, int y2_3.Ref, lst 1 fI y2_3.Refs]]⟩ sh3 ?_
  refine tr tbk 3 (.mk ?_)
  exact lf h4 () leA
  replace h4 := ct h4
  refine tc tbk 3 (.mk ?_)
  obtain ⟨p41, h4⟩ := asrt_e h4
  obtain ⟨x42, e42, h4⟩ := bnd_e h4
  obtain ⟨x43, e43, h4⟩ := bnd_e h4
  refine rse rfl rfl rfl (yl_call rfl rfl (.cons rfl .nil) cal52 (PC.mono (numR_c (s := ((y2_2.S, y2_2.Bad) : RS)) (id := 1) (ver := v3) rfl p41) (R' := fun y H' => y = int x42 ∧ H' = upd _ 1 (some (rdr 66 v3 x43))) (fun y H' h => ⟨h.1.trans (congrArg int e42), h.2.trans (rdr_cong e43)⟩))) ?_; rintro _ _ ⟨rfl, rfl⟩
  refine tr tbk 1 (.mk ?_)
  refine sS ⟨28, 9, true, true, v18, [[int y2_3.Kind, int y2_3.E, int y2_3.Item, int y2_3.Loc, int y2_3.To, int x42, int y2_3.Amount, int y2_3.Ref, lst 1 fI y2_3.Refs]]⟩ sh3 ?_
  refine tr tbk 3 (.mk ?_)
  exact lf h4 () leA
  replace h4 := ct h4
  refine tc tbk 3 (.mk ?_)
  obtain ⟨p44, h4⟩ := asrt_e h4
  obtain ⟨x45, e45, h4⟩ := bnd_e h4
  obtain ⟨x46, e46, h4⟩ := bnd_e h4
  refine rse rfl rfl rfl (yl_call rfl rfl (.cons rfl .nil) cal52 (PC.mono (numR_c (s := ((y2_2.S, y2_2.Bad) : RS)) (id := 1) (ver := v3) rfl p44) (R' := fun y H' => y = int x45 ∧ H' = upd _ 1 (some (rdr 66 v3 x46))) (fun y H' h => ⟨h.1.trans (congrArg int e45), h.2.trans (rdr_cong e46)⟩))) ?_; rintro _ _ ⟨rfl, rfl⟩
  refine tr tbk 1 (.mk ?_)
  refine sS ⟨28, 9, true, true, v18, [[int y2_3.Kind, int y2_3.E, int y2_3.Item, int y2_3.Loc, int x45, int y2_3.Qty, int y2_3.Amount, int y2_3.Ref, lst 1 fI y2_3.Refs]]⟩ sh3 ?_
  refine tr tbk 3 (.mk ?_)
  exact lf h4 () leA
  replace h4 := ct h4
  refine tc tbk 3 (.mk ?_)
  obtain ⟨p47, h4⟩ := asrt_e h4
  obtain ⟨x48, e48, h4⟩ := bnd_e h4
  obtain ⟨x49, e49, h4⟩ := bnd_e h4
  refine rse rfl rfl rfl (yl_call rfl rfl (.cons rfl .nil) cal52 (PC.mono (numR_c (s := ((y2_2.S, y2_2.Bad) : RS)) (id := 1) (ver := v3) rfl p47) (R' := fun y H' => y = int x48 ∧ H' = upd _ 1 (some (rdr 66 v3 x49))) (fun y H' h => ⟨h.1.trans (congrArg int e48), h.2.trans (rdr_cong e49)⟩))) ?_; rintro _ _ ⟨rfl, rfl⟩
  refine tr tbk 1 (.mk ?_)
  refine sS ⟨28, 9, true, true, v18, [[int y2_3.Kind, int y2_3.E, int y2_3.Item, int x48, int y2_3.To, int y2_3.Qty, int y2_3.Amount, int y2_3.Ref, lst 1 fI y2_3.Refs]]⟩ sh3 ?_
  refine tr tbk 3 (.mk ?_)
  exact lf h4 () leA
  replace h4 := ct h4
  refine tc tbk 3 (.mk ?_)
  obtain ⟨p50, h4⟩ := asrt_e h4
  obtain ⟨x51, e51, h4⟩ := bnd_e h4
  obtain ⟨x52, e52, h4⟩ := bnd_e h4
  refine rse rfl rfl rfl (yl_call rfl rfl (.cons rfl .nil) cal52 (PC.mono (numR_c (s := ((y2_2.S, y2_2.Bad) : RS)) (id := 1) (ver := v3) rfl p50) (R' := fun y H' => y = int x51 ∧ H' = upd _ 1 (some (rdr 66 v3 x52))) (fun y H' h => ⟨h.1.trans (congrArg int e51), h.2.trans (rdr_cong e52)⟩))) ?_; rintro _ _ ⟨rfl, rfl⟩
  refine tr tbk 1 (.mk ?_)
  refine sS ⟨28, 9, true, true, v18, [[int y2_3.Kind, int y2_3.E, int x51, int y2_3.Loc, int y2_3.To, int y2_3.Qty, int y2_3.Amount, int y2_3.Ref, lst 1 fI y2_3.Refs]]⟩ sh3 ?_
  refine tr tbk 3 (.mk ?_)
  exact lf h4 () leA
  replace h4 := ct h4
  refine tc tbk 3 (.mk ?_)
  obtain ⟨p53, h4⟩ := asrt_e h4
  obtain ⟨x54, e54, h4⟩ := bnd_e h4
  obtain ⟨x55, e55, h4⟩ := bnd_e h4
  refine rse rfl rfl rfl (yl_call rfl rfl (.cons rfl .nil) cal52 (PC.mono (numR_c (s := ((y2_2.S, y2_2.Bad) : RS)) (id := 1) (ver := v3) rfl p53) (R' := fun y H' => y = int x54 ∧ H' = upd _ 1 (some (rdr 66 v3 x55))) (fun y H' h => ⟨h.1.trans (congrArg int e54), h.2.trans (rdr_cong e55)⟩))) ?_; rintro _ _ ⟨rfl, rfl⟩
  refine tr tbk 1 (.mk ?_)
  refine sS ⟨28, 9, true, true, v18, [[int y2_3.Kind, int x54, int y2_3.Item, int y2_3.Loc, int y2_3.To, int y2_3.Qty, int y2_3.Amount, int y2_3.Ref, lst 1 fI y2_3.Refs]]⟩ sh3 ?_
  refine tr tbk 3 (.mk ?_)
  exact lf h4 () leA
  rintro ⟨y3_1, y3_2⟩ _ h3
  replace h3 := p2_e h3
  refine tc tbk 2 (.mk ?_)
  refine ni tbk h3 fun x56 h3 => ?_
  refine tr tbk 2 (.mk ?_)
  exact bk (x56, y3_1, y3_2) () h3 leA
  rintro ⟨y4_1, y4_2⟩ _ h2
  replace h2 := p2_e h2
  refine tc tbk 4 (.mk ?_)
  obtain ⟨x57, e57, h2⟩ := bind_e h2
  refine sC cal9 (d_ref05_Check_c e57) ?_
  refine nb tbk h2 fun x58 h2 => ?_
  refine tr tbk 1 (.mk ?_)
  refine jn h2 [2, 3] [2, 3, 5] (fun (a : GR) (k : Unit) => []) (fun a k => [(1, ⟨66, 2, true, true, v3, [[str a.S, boo a.Bad]]⟩)]) ⟨fun j59 h3 => ?_, ?_⟩
  cases x58
  replace h3 := cf h3
  refine tc tbk 2 (.mk ?_)
  exact lf h3 () leA
  replace h3 := ct h3
  refine tc tbk 3 (.mk ?_)
  obtain ⟨j60, h4, h3⟩ := bind_e h3
  refine rse (Out := fun y H' => (∃ (a : Unit) (k : Unit), a = j60 ∧ y = .tup [] ∧ H' = hk [(1, ⟨66, 2, true, true, v3, [[str ([] : List UInt8), boo true]]⟩), (2, ⟨28, 9, true, true, v14, [[int 0, int 0, int 0, int 0, int 0, int 0, int 0, int 0, .sc (.slice none 0 0)]]⟩), (3, ⟨28, 9, true, true, v18, [[int y4_2.Kind, int y4_2.E, int y4_2.Item, int y4_2.Loc, int y4_2.To, int y4_2.Qty, int y4_2.Amount, int y4_2.Ref, lst 1 fI y4_2.Refs]]⟩), (5, ⟨28, 9, true, true, w0_1, y0_4.map GOp.av⟩)])) rfl rfl rfl (yl_call rfl rfl (.cons rfl .nil) cal53 ?_) ?_
  refine pcw (c := _) Try.func53 rfl rfl ?_; intro Q hret hnorm
  refine tc tbk 5 (.mk ?_)
  refine sS ⟨66, 2, true, true, v3, [[str ([] : List UInt8), boo y4_1.Bad]]⟩ sh9 ?_
  refine tr tbk 2 (.mk ?_)
  refine sS ⟨66, 2, true, true, v3, [[str ([] : List UInt8), boo true]]⟩ sh4 ?_
  refine tr tbk 1 (.mk ?_)
  obtain rfl := nxt_e h4
  refine g_nil (hnorm _ _ (hk [(1, ⟨66, 2, true, true, v3, [[str ([] : List UInt8), boo true]]⟩), (2, ⟨28, 9, true, true, v14, [[int 0, int 0, int 0, int 0, int 0, int 0, int 0, int 0, .sc (.slice none 0 0)]]⟩), (3, ⟨28, 9, true, true, v18, [[int y4_2.Kind, int y4_2.E, int y4_2.Item, int y4_2.Loc, int y4_2.To, int y4_2.Qty, int y4_2.Amount, int y4_2.Ref, lst 1 fI y4_2.Refs]]⟩), (5, ⟨28, 9, true, true, w0_1, y0_4.map GOp.av⟩)]) .nil (HK.le ⟨rfl, rfl, rfl, rfl, trivial⟩) ?_)
  exact ⟨(), (), rfl, rfl, rfl⟩
  rintro y _ ⟨_, _, rfl, hc, rfl⟩
  subst hc
  refine tr tbk 1 (.mk ?_)
  exact lf h3 () leA
  rintro y6_1 _ h2
  refine tc tbk 3 (.mk ?_)
  refine sS ⟨28, 9, true, true, v14, [[int y4_2.Kind, int y4_2.E, int y4_2.Item, int y4_2.Loc, int y4_2.To, int y4_2.Qty, int y4_2.Amount, int y4_2.Ref, lst 1 fI y4_2.Refs]]⟩ sh28 ?_
  refine tr tbk 1 (.mk ?_)
  obtain rfl := nxt_e h2
  refine w_ret (hret _ _ (hk [(1, ⟨66, 2, true, true, v3, [[str y6_1.S, boo y6_1.Bad]]⟩), (5, ⟨28, 9, true, true, w0_1, y0_4.map GOp.av⟩)]) (.cell rfl (.pt rfl rfl rfl) sh28 rfl .nil) (HK.le ⟨rfl, rfl, trivial⟩) ?_)
  exact ⟨(y4_2, y6_1), (), rfl, rfl, rfl⟩
  rintro y _ ⟨⟨y7_1, y7_2⟩, _, rfl, hc, rfl⟩
  replace h1 := p2_e h1
  subst hc
  refine sY (yv_to (y := lst 9 GOp.av ([y7_1] : List GOp)) (yv_buildSlice (ps := [(0, _)]) (rows := [[int y7_1.Kind, int y7_1.E, int y7_1.Item, int y7_1.Loc, int y7_1.To, int y7_1.Qty, int y7_1.Amount, int y7_1.Ref, lst 1 fI y7_1.Refs]]) rfl Try.underlying22 bz28 (.cons rfl .nil) (by kernel_rfl) rfl rfl rfl) rfl) ?_
  obtain ⟨x61, e61, h1⟩ := bnd_e h1
  obtain ⟨p62, h1⟩ := asrt_e h1
  refine rse rfl rfl rfl (yl_appT (g := GOp.av) (l := y0_4) (m := ([y7_1] : List GOp)) .any rfl Try.underlying22 bz28 by28 rfl rfl rfl rfl rfl rfl rfl rfl rfl rfl (Eq.symm rfl) (.refl _) (fun _ => rfl) e61 p62) ?_; rintro _ _ ⟨v63, -, rfl, rfl⟩
  refine tr tbk 5 (.mk ?_)
  refine ni tbk h1 fun x64 h1 => ?_
  refine tr tbk 2 (.mk ?_)
  exact bk (x64, y7_2, x61) v63 h1 leA
  rintro ⟨y9_2, y9_3⟩ w9_1 h0
  replace h0 := p2_e h0
  refine tc tbk 4 (.mk ?_)
  obtain ⟨j65, h1, h0⟩ := bind_e h0
  refine rse (Out := fun y H' => (∃ (a : Bool) (k : Unit), a = j65 ∧ y = boo a ∧ H' = hk [(1, ⟨66, 2, true, true, v3, [[str y9_2.S, boo y9_2.Bad]]⟩), (5, ⟨28, 9, true, true, w9_1, y9_3.map GOp.av⟩)])) rfl rfl rfl (yl_call rfl rfl (.cons rfl .nil) cal36 ?_) ?_
  refine pcw (c := _) Try.func36 rfl rfl ?_; intro Q hret hnorm
  refine tc tbk 5 (.mk ?_)
  refine jn h1 [] [1, 5] (fun (a : Bool) (k : Unit) => [(2, boo a)]) (fun a k => []) ⟨fun j66 h2 => ?_, ?_⟩
  refine tc tbk 5 (.mk ?_)
  refine nb tbk h2 fun x67 h2 => ?_
  refine tr tbk 1 (.mk ?_)
  cases x67
  replace h2 := cf h2
  refine tr tbk 8 (.mk ?_)
  exact lf h2 () leA
  replace h2 := ct h2
  refine tr tbk 4 (.mk ?_)
  obtain ⟨x68, e68, h2⟩ := bnd_e h2
  refine sY (yv_to (y := boo x68) (yv_seql rfl rfl rfl) (congrArg boo e68)) ?_
  refine tr tbk 3 (.mk ?_)
  exact lf h2 () leA
  rintro y10_1 _ h1
  obtain rfl := nxt_e h1
  refine w_ret (hret _ _ (hk [(1, ⟨66, 2, true, true, v3, [[str y9_2.S, boo y9_2.Bad]]⟩), (5, ⟨28, 9, true, true, w9_1, y9_3.map GOp.av⟩)]) (.tmp rfl .nil) (HK.le ⟨rfl, rfl, trivial⟩) ?_)
  exact ⟨y10_1, (), rfl, rfl, rfl⟩
  rintro y _ ⟨y11_1, _, rfl, hc, rfl⟩
  subst hc
  refine nb tbk h0 fun x69 h0 => ?_
  refine tr tbk 1 (.mk ?_)
  cases x69
  replace h0 := cf h0
  refine tc tbk 8 (.mk ?_)
  obtain rfl := nxt_e h0
  refine wR hret (rT (rT .nil)) ?_
  exact CvL.tup (.cons (cv_lst rfl rfl rfl rfl rfl (Eq.symm rfl)) (.cons (.refl _) .nil))
  replace h0 := ct h0
  refine tc tbk 6 (.mk ?_)
  obtain rfl := nxt_e h0
  refine wR hret (rT (rT .nil)) ?_
  exact CvL.tup (.cons (.nil _) (.cons (.refl _) .nil))
def d_ref05_Same_L0 (a1 : List GOp) (a2 : List GOp) : Nat → Int → Option ((Unit) ⊕ (Bool))
  | 0, _ => none
  | n + 1, y0_1 =>
    bnd (decide (y0_1 < (a1.length : Int))) fun x5 =>
    cond x5 ((ix a1 y0_1).bind fun x6 =>
    (ix a2 y0_1).bind fun x7 =>
    (d_ref05_same n x6 x7).bind fun x8 =>
    bnd (!x8) fun x9 =>
    cond x9 (esc (some ((false : Bool)))) (bnd (w64 (y0_1 + 1)) fun x10 =>
    d_ref05_Same_L0 a1 a2 n (x10 : Int))) (brk ())
def d_ref05_Same (n : Nat) (a1 : List GOp) (a2 : List GOp) : Option (Bool) :=
bnd (decide ((a1.length : Int) ≠ (a2.length : Int))) fun x3 =>
cond x3 (some ((false : Bool))) ((show Option ((Unit) ⊕ (Bool)) from
d_ref05_Same_L0 a1 a2 n (0 : Int)).bind <| sel <| fun _ =>
some ((true : Bool)))
theorem d_ref05_Same_c {n : Nat} {a1 : List GOp} {a2 : List GOp} {r : Bool} (h0 : d_ref05_Same n a1 a2 = some r) : PP Try.prog 13 [lst 9 GOp.av a1, lst 9 GOp.av a2] (fun y => y = boo r) := by
  unfold d_ref05_Same at h0
  refine pp_of_pc (R0 := fun y H => Cv (frzH H) y (boo r)) ?_ (fun y H hc => ⟨_, rfl, pvB r, hc⟩)
  refine pcw (c := _) Try.func13 rfl rfl ?_; intro Q hret hnorm
  refine tc tbk 8 (.mk ?_)
  refine sY (yv_len_sl rfl Try.underlying22 rfl (lst_len _)) ?_
  refine tr tbk 1 (.mk ?_)
  refine sY (yv_len_sl rfl Try.underlying22 rfl (lst_len _)) ?_
  refine nb tbk h0 fun x3 h0 => ?_
  refine tr tbk 1 (.mk ?_)
  cases x3
  replace h0 := cf h0
  refine tc tbk 7 (.mk ?_)
  refine jnE h0 [4] [] (fun (a : Unit) (k : Unit) => []) (fun a k => []) ⟨fun j4 h1 h0 => ?_, ?_⟩
  refine tc tbk 1 (.mk ?_)
  refine lp (fun n (a : Int) => d_ref05_Same_L0 a1 a2 n a) (0 : Int) () h1 [0, 1, 4] [] (fun (a : Int) (k : Unit) => [(5, int a)]) (fun a k => []) (fun _ => rfl) ⟨leA, ?_⟩
  rintro n y0_1 _ hm h1
  replace h1 : d_ref05_Same_L0 a1 a2 (n + 1) y0_1 = some _ := h1
  rw [d_ref05_Same_L0] at h1
  refine tc tbk 5 (.mk ?_)
  refine sY (yv_len_sl rfl Try.underlying22 rfl (lst_len _)) ?_
  refine nb tbk h1 fun x5 h1 => ?_
  refine tr tbk 1 (.mk ?_)
  cases x5
  replace h1 := cf h1
  refine tc tbk 2 (.mk ?_)
  exact lfE h1 () leA
  replace h1 := ct h1
  refine tc tbk 5 (.mk ?_)
  refine c_drawE [0, 0, 3, 7, 0, 0, 48, 112, 255, 511] (fun i => []) (fun i => []) (fun i => true) [0, 1, 2, 3, 4, 5, 6, 7, 8, 9] mixed (by kernel_rfl) ?_; intro K hK
  iterate 2 refine eM ?_
  obtain ⟨x6, e6, h1⟩ := bind_e h1
  refine eP (fun H hH => yv_ixT rfl Try.underlying22 sh28 rfl rfl e6) ?_
  refine eP (fun H hH => yv_load rfl sh28 rfl (.pp _) rfl) ?_
  iterate 2 refine eM ?_
  obtain ⟨x7, e7, h1⟩ := bind_e h1
  refine eP (fun H hH => yv_ixT rfl Try.underlying22 sh28 rfl rfl e7) ?_
  refine eP (fun H hH => yv_load rfl sh28 rfl (.pp _) rfl) ?_
  obtain ⟨x8, e8, h1⟩ := bind_e h1
  refine eP (fun H hH => yv_callP rfl rfl (.cons rfl (.cons rfl .nil)) cal27 (CvL.refl _) (d_ref05_same_c e8)) ?_
  obtain ⟨x9, e9, h1⟩ := bnd_e h1
  refine eP (fun H hH => yv_not rfl rfl e9) ?_
  refine de_nil (hK _ ?_)
  cases x9
  replace h1 := cf h1
  refine tc tbk 5 (.mk ?_)
  refine ni tbk h1 fun x10 h1 => ?_
  refine tr tbk 2 (.mk ?_)
  exact bk x10 () h1 leA
  replace h1 := ct h1
  refine tc tbk 5 (.mk ?_)
  obtain ⟨c11, hX, hj⟩ := esc_e h1; subst hj; replace h0 := hX.trans (sel_r h0)
  obtain rfl := nxt_e h0
  refine wR hret (rT .nil) ?_
  exact .refl _
  rintro _ _ h0
  refine tc tbk 4 (.mk ?_)
  obtain rfl := nxt_e h0
  refine wR hret (rT .nil) ?_
  exact .refl _
  replace h0 := ct h0
  refine tc tbk 5 (.mk ?_)
  obtain rfl := nxt_e h0
  refine wR hret (rT .nil) ?_
  exact .refl _
def d_ref05_value (a1 : GOp) (a2 : Int) : Option (Int) :=
bnd (decide (a2 = 101)) fun x4 =>
cond x4 (some ((a1.E : Int))) (bnd (decide (a2 = 105)) fun x5 =>
cond x5 (some ((a1.Item : Int))) (bnd (decide (a2 = 108)) fun x6 =>
cond x6 (some ((a1.Loc : Int))) (bnd (decide (a2 = 116)) fun x7 =>
cond x7 (some ((a1.To : Int))) (bnd (decide (a2 = 113)) fun x8 =>
cond x8 (some ((a1.Qty : Int))) (bnd (decide (a2 = 97)) fun x9 =>
cond x9 (some ((a1.Amount : Int))) (some ((a1.Ref : Int))))))))
theorem d_ref05_value_c {a1 : GOp} {a2 : Int} {r : Int} (h0 : d_ref05_value a1 a2 = some r) : PP Try.prog 45 [.agg (GOp.av a1), .sc (.int .u8 a2)] (fun y => y = int r) := by
  unfold d_ref05_value at h0
  refine pp_of_pc (R0 := fun y H => Cv (frzH H) y (int r)) ?_ (fun y H hc => ⟨_, rfl, pvI r, hc⟩)
  refine pcw (c := _) Try.func45 rfl rfl ?_; intro Q hret hnorm
  refine tc tbk 2 (.mk ?_)
  refine sB 1 fun v3 => ?_
  refine tr tbk 10 (.mk ?_)
  refine nb tbk h0 fun x4 h0 => ?_
  refine tr tbk 2 (.mk ?_)
  cases x4
  replace h0 := cf h0
  refine tc tbk 3 (.mk ?_)
  refine nb tbk h0 fun x5 h0 => ?_
  refine tr tbk 2 (.mk ?_)
  cases x5
  replace h0 := cf h0
  refine tc tbk 3 (.mk ?_)
  refine nb tbk h0 fun x6 h0 => ?_
  refine tr tbk 2 (.mk ?_)
  cases x6
  replace h0 := cf h0
  refine tc tbk 3 (.mk ?_)
  refine nb tbk h0 fun x7 h0 => ?_
  refine tr tbk 2 (.mk ?_)
  cases x7
  replace h0 := cf h0
  refine tc tbk 3 (.mk ?_)
  refine nb tbk h0 fun x8 h0 => ?_
  refine tr tbk 2 (.mk ?_)
  cases x8
  replace h0 := cf h0
  refine tc tbk 3 (.mk ?_)
  refine nb tbk h0 fun x9 h0 => ?_
  refine tr tbk 2 (.mk ?_)
  cases x9
  replace h0 := cf h0
  refine tc tbk 9 (.mk ?_)
  obtain rfl := nxt_e h0
  refine wR hret (rT .nil) ?_
  exact .refl _
  replace h0 := ct h0
  refine tc tbk 7 (.mk ?_)
  obtain rfl := nxt_e h0
  refine wR hret (rT .nil) ?_
  exact .refl _
  replace h0 := ct h0
  refine tc tbk 7 (.mk ?_)
  obtain rfl := nxt_e h0
  refine wR hret (rT .nil) ?_
  exact .refl _
  replace h0 := ct h0
  refine tc tbk 7 (.mk ?_)
  obtain rfl := nxt_e h0
  refine wR hret (rT .nil) ?_
  exact .refl _
  replace h0 := ct h0
  refine tc tbk 7 (.mk ?_)
  obtain rfl := nxt_e h0
  refine wR hret (rT .nil) ?_
  exact .refl _
  replace h0 := ct h0
  refine tc tbk 7 (.mk ?_)
  obtain rfl := nxt_e h0
  refine wR hret (rT .nil) ?_
  exact .refl _
  replace h0 := ct h0
  refine tc tbk 7 (.mk ?_)
  obtain rfl := nxt_e h0
  refine wR hret (rT .nil) ?_
  exact .refl _
def d_ref03_List_L0 (a1 : List Int) : Nat → (List UInt8) → Int → Option ((List UInt8))
  | 0, _, _ => none
  | n + 1, y0_1, y0_2 =>
    bnd (decide (y0_2 < (a1.length : Int))) fun x4 =>
    cond x4 ((ix a1 y0_2).bind fun x5 =>
    (numRD x5).bind fun x6 =>
    asrt (y0_1.length + x6.length ≤ 9223372036854775807) <|
    bnd (y0_1 ++ x6) fun x8 =>
    bnd (w64 (y0_2 + 1)) fun x9 =>
    d_ref03_List_L0 a1 n (x8 : List UInt8) (x9 : Int)) (some (y0_1 : List UInt8))
def d_ref03_List (n : Nat) (a1 : List Int) : Option ((List UInt8)) :=
(numRD (a1.length : Int)).bind fun x2 =>
(show Option ((List UInt8)) from
d_ref03_List_L0 a1 n (x2 : List UInt8) (0 : Int)).bind <| fun y1_1 =>
some ((y1_1 : List UInt8))
theorem d_ref03_List_c {n : Nat} {a1 : List Int} {r : (List UInt8)} (h0 : d_ref03_List n a1 = some r) : PP Try.prog 44 [lst 1 fI a1] (fun y => y = str r) := by
  unfold d_ref03_List at h0
  refine pp_of_pc (R0 := fun y H => Cv (frzH H) y (str r)) ?_ (fun y H hc => ⟨_, rfl, pvS r, hc⟩)
  refine pcw (c := _) Try.func44 rfl rfl ?_; intro Q hret hnorm
  refine tc tbk 7 (.mk ?_)
  refine sY (yv_len_sl rfl Try.underlying26 rfl (lst_len _)) ?_
  obtain ⟨x2, e2, h0⟩ := bind_e h0
  refine sC cal43 (numRD_c e2) ?_
  refine tr tbk 7 (.mk ?_)
  refine jn h0 [2] [] (fun (a : (List UInt8)) (k : Unit) => [(3, str a)]) (fun a k => []) ⟨fun j3 h1 => ?_, ?_⟩
  refine tc tbk 1 (.mk ?_)
  refine lp (fun n (a : (List UInt8) × Int) => d_ref03_List_L0 a1 n a.1 a.2) ((x2 : List UInt8), (0 : Int)) () h1 [0, 2] [] (fun (a : (List UInt8) × Int) (k : Unit) => [(3, str a.1), (4, int a.2)]) (fun a k => []) (fun _ => rfl) ⟨leA, ?_⟩
  rintro n ⟨y0_1, y0_2⟩ _ hm h1
  replace h1 : d_ref03_List_L0 a1 (n + 1) y0_1 y0_2 = some _ := h1
  rw [d_ref03_List_L0] at h1
  refine tc tbk 5 (.mk ?_)
  refine sY (yv_len_sl rfl Try.underlying26 rfl (lst_len _)) ?_
  refine nb tbk h1 fun x4 h1 => ?_
  refine tr tbk 1 (.mk ?_)
  cases x4
  replace h1 := cf h1
  refine tc tbk 2 (.mk ?_)
  exact lf h1 () leA
  replace h1 := ct h1
  refine tc tbk 8 (.mk ?_)
  obtain ⟨x5, e5, h1⟩ := bind_e h1
  refine sY (yv_ixT rfl Try.underlying26 sh3 rfl rfl e5) ?_
  refine tr tbk 1 (.mk ?_)
  obtain ⟨x6, e6, h1⟩ := bind_e h1
  refine sC cal43 (numRD_c e6) ?_
  obtain ⟨p7, h1⟩ := asrt_e h1
  obtain ⟨x8, e8, h1⟩ := bnd_e h1
  refine sY (yv_to (y := str x8) (yv_sadd rfl rfl rfl p7) (congrArg str e8)) ?_
  refine tr tbk 5 (.mk ?_)
  refine ni tbk h1 fun x9 h1 => ?_
  refine tr tbk 2 (.mk ?_)
  exact bk (x8, x9) () h1 leA
  rintro y1_1 _ h0
  refine tc tbk 5 (.mk ?_)
  obtain rfl := nxt_e h0
  refine wR hret (rT .nil) ?_
  exact .refl _
def d_ref05_Bytes_L1 (a1 : List GOp) (y0_2 : Int) (x11 : (List UInt8)) : Nat → (List UInt8) → Int → Option ((List UInt8))
  | 0, _, _ => none
  | n + 1, y1_1, y1_2 =>
    bnd (decide (y1_2 < (x11.length : Int))) fun x17 =>
    cond x17 ((show Option ((List UInt8)) from
    (ix x11 y1_2).bind fun x19 =>
    bnd (decide ((x19.toNat : Int) = 115)) fun x20 =>
    cond x20 ((ix a1 y0_2).bind fun x27 =>
    (d_ref03_List n x27.Refs).bind fun x28 =>
    asrt (y1_1.length + x28.length ≤ 9223372036854775807) <|
    bnd (y1_1 ++ x28) fun x30 =>
    some (x30 : List UInt8)) ((ix a1 y0_2).bind fun x21 =>
    (ix x11 y1_2).bind fun x22 =>
    (d_ref05_value x21 (x22.toNat : Int)).bind fun x23 =>
    (numRD x23).bind fun x24 =>
    asrt (y1_1.length + x24.length ≤ 9223372036854775807) <|
    bnd (y1_1 ++ x24) fun x26 =>
    some (x26 : List UInt8))).bind <| fun y2_1 =>
    bnd (w64 (y1_2 + 1)) fun x31 =>
    d_ref05_Bytes_L1 a1 y0_2 x11 n (y2_1 : List UInt8) (x31 : Int)) (some (y1_1 : List UInt8))
def d_ref05_Bytes_L0 (a1 : List GOp) : Nat → (List UInt8) → Int → Option (((List UInt8)) ⊕ ((List UInt8)))
  | 0, _, _ => none
  | n + 1, y0_1, y0_2 =>
    bnd (decide (y0_2 < (a1.length : Int))) fun x5 =>
    cond x5 ((show Option (((List UInt8)) ⊕ (((List UInt8)) ⊕ ((List UInt8)))) from
    (ix a1 y0_2).bind fun x7 =>
    (d_ref05_Check n x7).bind fun x8 =>
    bnd (!x8) fun x9 =>
    cond x9 (esc (esc (some ((([] : List UInt8) : List UInt8))))) ((ix a1 y0_2).bind fun x10 =>
    (d_ref05_has x10.Kind).bind fun x11 =>
    (ix a1 y0_2).bind fun x12 =>
    (numRD x12.Kind).bind fun x13 =>
    asrt (y0_1.length + x13.length ≤ 9223372036854775807) <|
    bnd (y0_1 ++ x13) fun x15 =>
    (show Option ((List UInt8)) from
    d_ref05_Bytes_L1 a1 y0_2 x11 n (x15 : List UInt8) (0 : Int)).bind <| fun y3_1 =>
    brk (y3_1 : List UInt8))).bind <| sel <| fun y4_1 =>
    bnd (w64 (y0_2 + 1)) fun x34 =>
    d_ref05_Bytes_L0 a1 n (y4_1 : List UInt8) (x34 : Int)) (brk (y0_1 : List UInt8))
def d_ref05_Bytes (n : Nat) (a1 : List GOp) : Option ((List UInt8)) :=
bnd (decide ((a1.length : Int) > 400)) fun x2 =>
asrt (x2 = false) <|
(numRD (a1.length : Int)).bind fun x3 =>
(show Option (((List UInt8)) ⊕ ((List UInt8))) from
d_ref05_Bytes_L0 a1 n (x3 : List UInt8) (0 : Int)).bind <| sel <| fun y5_1 =>
some ((y5_1 : List UInt8))
theorem d_ref05_Bytes_c {n : Nat} {a1 : List GOp} {r : (List UInt8)} (h0 : d_ref05_Bytes n a1 = some r) : PP Try.prog 15 [lst 9 GOp.av a1] (fun y => y = str r) := by
  unfold d_ref05_Bytes at h0
  refine pp_of_pc (R0 := fun y H => Cv (frzH H) y (str r)) ?_ (fun y H hc => ⟨_, rfl, pvS r, hc⟩)
  refine pcw (c := _) Try.func15 rfl rfl ?_; intro Q hret hnorm
  refine tc tbk 8 (.mk ?_)
  refine sY (yv_len_sl rfl Try.underlying22 rfl (lst_len _)) ?_
  refine nb tbk h0 fun x2 h0 => ?_
  refine tr tbk 1 (.mk ?_)
  replace h0 := asrt_e h0
  obtain ⟨rfl, h0⟩ := h0
  refine tc tbk 5 (.mk ?_)
  refine sY (yv_len_sl rfl Try.underlying22 rfl (lst_len _)) ?_
  obtain ⟨x3, e3, h0⟩ := bind_e h0
  refine sC cal43 (numRD_c e3) ?_
  refine tr tbk 7 (.mk ?_)
  refine jnE h0 [2] [] (fun (a : (List UInt8)) (k : Unit) => [(3, str a)]) (fun a k => []) ⟨fun j4 h1 h0 => ?_, ?_⟩
  refine tc tbk 1 (.mk ?_)
  refine lp (fun n (a : (List UInt8) × Int) => d_ref05_Bytes_L0 a1 n a.1 a.2) ((x3 : List UInt8), (0 : Int)) () h1 [0, 2] [] (fun (a : (List UInt8) × Int) (k : Unit) => [(3, str a.1), (4, int a.2)]) (fun a k => []) (fun _ => rfl) ⟨leA, ?_⟩
  rintro n ⟨y0_1, y0_2⟩ _ hm h1
  replace h1 : d_ref05_Bytes_L0 a1 (n + 1) y0_1 y0_2 = some _ := h1
  rw [d_ref05_Bytes_L0] at h1
  refine tc tbk 5 (.mk ?_)
  refine sY (yv_len_sl rfl Try.underlying22 rfl (lst_len _)) ?_
  refine nb tbk h1 fun x5 h1 => ?_
  refine tr tbk 1 (.mk ?_)
  cases x5
  replace h1 := cf h1
  refine tc tbk 2 (.mk ?_)
  exact lfE h1 () leA
  replace h1 := ct h1
  refine tc tbk 3 (.mk ?_)
  refine jnE h1 [0, 2, 4] [] (fun (a : (List UInt8)) (k : Unit) => [(3, str a)]) (fun a k => []) ⟨fun j6 h2 h1 => ?_, ?_⟩
  refine tc tbk 6 (.mk ?_)
  obtain ⟨x7, e7, h2⟩ := bind_e h2
  refine sY (yv_ixT rfl Try.underlying22 sh28 rfl rfl e7) ?_
  refine tr tbk 1 (.mk ?_)
  obtain ⟨x8, e8, h2⟩ := bind_e h2
  refine sC cal9 (d_ref05_Check_c e8) ?_
  refine nb tbk h2 fun x9 h2 => ?_
  refine tr tbk 1 (.mk ?_)
  cases x9
  replace h2 := cf h2
  refine tc tbk 6 (.mk ?_)
  obtain ⟨x10, e10, h2⟩ := bind_e h2
  refine sY (yv_ixT rfl Try.underlying22 sh28 rfl rfl e10) ?_
  refine tr tbk 2 (.mk ?_)
  obtain ⟨x11, e11, h2⟩ := bind_e h2
  refine sC cal25 (d_ref05_has_c e11) ?_
  refine tr tbk 7 (.mk ?_)
  obtain ⟨x12, e12, h2⟩ := bind_e h2
  refine sY (yv_ixT rfl Try.underlying22 sh28 rfl rfl e12) ?_
  refine tr tbk 2 (.mk ?_)
  obtain ⟨x13, e13, h2⟩ := bind_e h2
  refine sC cal43 (numRD_c e13) ?_
  obtain ⟨p14, h2⟩ := asrt_e h2
  obtain ⟨x15, e15, h2⟩ := bnd_e h2
  refine sY (yv_to (y := str x15) (yv_sadd rfl rfl rfl p14) (congrArg str e15)) ?_
  refine tr tbk 6 (.mk ?_)
  refine jn h2 [0, 2, 4] [] (fun (a : (List UInt8)) (k : Unit) => [(3, str a)]) (fun a k => []) ⟨fun j16 h3 => ?_, ?_⟩
  refine tc tbk 1 (.mk ?_)
  refine lp (fun n (a : (List UInt8) × Int) => d_ref05_Bytes_L1 a1 y0_2 x11 n a.1 a.2) ((x15 : List UInt8), (0 : Int)) () h3 [0, 2, 4, 5] [] (fun (a : (List UInt8) × Int) (k : Unit) => [(3, str a.1), (6, int a.2)]) (fun a k => []) (fun _ => rfl) ⟨leA, ?_⟩
  rintro n ⟨y1_1, y1_2⟩ _ hm h3
  replace h3 : d_ref05_Bytes_L1 a1 y0_2 x11 (n + 1) y1_1 y1_2 = some _ := h3
  rw [d_ref05_Bytes_L1] at h3
  refine tc tbk 5 (.mk ?_)
  refine sY (yv_len_str rfl Try.underlying9 rfl) ?_
  refine nb tbk h3 fun x17 h3 => ?_
  refine tr tbk 1 (.mk ?_)
  cases x17
  replace h3 := cf h3
  refine tc tbk 2 (.mk ?_)
  exact lf h3 () leA
  replace h3 := ct h3
  refine tc tbk 3 (.mk ?_)
  refine jn h3 [0, 2, 4, 5, 6] [] (fun (a : (List UInt8)) (k : Unit) => [(3, str a)]) (fun a k => []) ⟨fun j18 h4 => ?_, ?_⟩
  refine tc tbk 5 (.mk ?_)
  obtain ⟨x19, e19, h4⟩ := bind_e h4
  refine sY (yv_index_str rfl Try.underlying9 rfl rfl (ix_e e19).1 (ix_e e19).2) ?_
  refine nb tbk h4 fun x20 h4 => ?_
  refine tr tbk 1 (.mk ?_)
  cases x20
  replace h4 := cf h4
  refine tc tbk 1 (.mk ?_)
  refine c_drawE [0, 0, 0, 6, 14, 0, 0, 96, 254, 510, 1023, 2047] (fun i => []) (fun i => []) (fun i => true) [0, 1, 2, 3, 4, 5, 6, 7, 8, 9, 10, 11] mixed (by kernel_rfl) ?_; intro K hK
  iterate 3 refine eM ?_
  obtain ⟨x21, e21, h4⟩ := bind_e h4
  refine eP (fun H hH => yv_ixT rfl Try.underlying22 sh28 rfl rfl e21) ?_
  refine eP (fun H hH => yv_load rfl sh28 rfl (.pp _) rfl) ?_
  iterate 2 refine eM ?_
  obtain ⟨x22, e22, h4⟩ := bind_e h4
  refine eP (fun H hH => yv_index_str rfl Try.underlying9 rfl rfl (ix_e e22).1 (ix_e e22).2) ?_
  obtain ⟨x23, e23, h4⟩ := bind_e h4
  refine eP (fun H hH => yv_callP rfl rfl (.cons rfl (.cons rfl .nil)) cal45 (CvL.refl _) (d_ref05_value_c e23)) ?_
  obtain ⟨x24, e24, h4⟩ := bind_e h4
  refine eP (fun H hH => yv_callP rfl rfl (.cons rfl .nil) cal43 (CvL.refl _) (numRD_c e24)) ?_
  obtain ⟨p25, h4⟩ := asrt_e h4
  obtain ⟨x26, e26, h4⟩ := bnd_e h4
  refine eP (fun H hH => yv_to (y := str x26) (yv_sadd rfl rfl rfl p25) (congrArg str e26)) ?_
  refine eA ?_
  refine de_nil (hK _ ?_)
  refine tc tbk 1 (.mk ?_)
  exact lf h4 () leA
  replace h4 := ct h4
  refine tc tbk 5 (.mk ?_)
  obtain ⟨x27, e27, h4⟩ := bind_e h4
  refine sY (yv_ixT rfl Try.underlying22 sh28 rfl rfl e27) ?_
  refine tr tbk 2 (.mk ?_)
  obtain ⟨x28, e28, h4⟩ := bind_e h4
  refine sC cal44 (d_ref03_List_c e28) ?_
  obtain ⟨p29, h4⟩ := asrt_e h4
  obtain ⟨x30, e30, h4⟩ := bnd_e h4
  refine sY (yv_to (y := str x30) (yv_sadd rfl rfl rfl p29) (congrArg str e30)) ?_
  refine tr tbk 3 (.mk ?_)
  exact lf h4 () leA
  rintro y2_1 _ h3
  refine tc tbk 2 (.mk ?_)
  refine ni tbk h3 fun x31 h3 => ?_
  refine tr tbk 2 (.mk ?_)
  exact bk (y2_1, x31) () h3 leA
  rintro y3_1 _ h2
  refine tc tbk 1 (.mk ?_)
  exact lfE h2 () leA
  replace h2 := ct h2
  refine tc tbk 5 (.mk ?_)
  obtain ⟨c32, hX, hj⟩ := esc_e h2; subst hj; replace h1 := hX.trans (sel_r h1)
  obtain ⟨c33, hX, hj⟩ := esc_e h1; subst hj; replace h0 := hX.trans (sel_r h0)
  obtain rfl := nxt_e h0
  refine wR hret (rT .nil) ?_
  exact .refl _
  rintro y4_1 _ h1
  refine tc tbk 2 (.mk ?_)
  refine ni tbk h1 fun x34 h1 => ?_
  refine tr tbk 2 (.mk ?_)
  exact bk (y4_1, x34) () h1 leA
  rintro y5_1 _ h0
  refine tc tbk 5 (.mk ?_)
  obtain rfl := nxt_e h0
  refine wR hret (rT .nil) ?_
  exact .refl _
def d_law05_OpsAll_L0 (a1 : List GOp) : Nat → Int → Option ((Unit) ⊕ (Bool))
  | 0, _ => none
  | n + 1, y1_1 =>
    bnd (decide (y1_1 < (a1.length : Int))) fun x11 =>
    cond x11 ((ix a1 y1_1).bind fun x12 =>
    (d_ops_Check n x12).bind fun x13 =>
    (ix a1 y1_1).bind fun x14 =>
    (d_ref05_Check n x14).bind fun x15 =>
    bnd (decide (x13 ≠ x15)) fun x16 =>
    cond x16 (esc (some ((false : Bool)))) (bnd (w64 (y1_1 + 1)) fun x17 =>
    d_law05_OpsAll_L0 a1 n (x17 : Int))) (brk ())
def d_law05_OpsAll (n : Nat) (a1 : List GOp) (a2 : List GOp) (a3 : List UInt8) : Option (Bool) :=
(show Option (Bool) from
(d_law00_FewOps n a1).bind fun x5 =>
bnd (!x5) fun x6 =>
cond x6 (some (true : Bool)) ((d_law00_FewOps n a2).bind fun x7 =>
bnd (!x7) fun x8 =>
cond x8 (some (true : Bool)) (bnd (decide ((a3.length : Int) > 2000)) fun x9 =>
some (x9 : Bool)))).bind <| fun y0_1 =>
cond y0_1 ((d_law05_awake n).bind fun x31 =>
some ((x31 : Bool))) ((show Option ((Unit) ⊕ (Bool)) from
d_law05_OpsAll_L0 a1 n (0 : Int)).bind <| sel <| fun _ =>
(d_ops_Read n a3).bind fun x19 =>
(d_ref05_Read n a3).bind fun x20 =>
(show Option (Bool) from
(d_ops_Same n a1 a2).bind fun x22 =>
(d_ref05_Same n a1 a2).bind fun x23 =>
bnd (decide (x22 = x23)) fun x24 =>
cond x24 ((d_ops_Bytes n a1).bind fun x25 =>
(d_ref05_Bytes n a1).bind fun x26 =>
bnd (decide (x25 = x26)) fun x27 =>
cond x27 ((d_ref05_Same n x19.1 x20.1).bind fun x28 =>
cond x28 (bnd (decide (x19.2 = x20.2)) fun x29 =>
cond x29 ((d_law05_awake n).bind fun x30 =>
some (x30 : Bool)) (some (false : Bool))) (some (false : Bool))) (some (false : Bool))) (some (false : Bool))).bind <| fun y3_1 =>
some ((y3_1 : Bool)))
theorem d_law05_OpsAll_c {n : Nat} {a1 : List GOp} {a2 : List GOp} {a3 : List UInt8} {r : Bool} (h0 : d_law05_OpsAll n a1 a2 a3 = some r) : PP Try.prog 3 [lst 9 GOp.av a1, lst 9 GOp.av a2, str a3] (fun y => y = boo r) := by
  unfold d_law05_OpsAll at h0
  refine pp_of_pc (R0 := fun y H => Cv (frzH H) y (boo r)) ?_ (fun y H hc => ⟨_, rfl, pvB r, hc⟩)
  refine pcw (c := _) Try.func3 rfl rfl ?_; intro Q hret hnorm
  refine tc tbk 6 (.mk ?_)
  refine jn h0 [0, 1, 2, 6] [] (fun (a : Bool) (k : Unit) => [(24, boo a)]) (fun a k => []) ⟨fun j4 h1 => ?_, ?_⟩
  refine tc tbk 2 (.mk ?_)
  obtain ⟨x5, e5, h1⟩ := bind_e h1
  refine sC cal6 (d_law00_FewOps_c e5) ?_
  refine nb tbk h1 fun x6 h1 => ?_
  refine tr tbk 1 (.mk ?_)
  cases x6
  replace h1 := cf h1
  refine tr tbk 1 (.mk ?_)
  obtain ⟨x7, e7, h1⟩ := bind_e h1
  refine sC cal6 (d_law00_FewOps_c e7) ?_
  refine nb tbk h1 fun x8 h1 => ?_
  refine tr tbk 2 (.mk ?_)
  cases x8
  replace h1 := cf h1
  refine tr tbk 1 (.mk ?_)
  refine sY (yv_len_str rfl Try.underlying9 rfl) ?_
  refine nb tbk h1 fun x9 h1 => ?_
  refine tr tbk 2 (.mk ?_)
  exact lf h1 () leA
  replace h1 := ct h1
  refine tr tbk 5 (.mk ?_)
  exact lf h1 () leA
  replace h1 := ct h1
  refine tr tbk 10 (.mk ?_)
  exact lf h1 () leA
  rintro y0_1 _ h0
  cases y0_1
  replace h0 := cf h0
  refine tc tbk 7 (.mk ?_)
  refine jnE h0 [0, 1, 2, 6] [] (fun (a : Unit) (k : Unit) => []) (fun a k => []) ⟨fun j10 h1 h0 => ?_, ?_⟩
  refine tc tbk 1 (.mk ?_)
  refine lp (fun n (a : Int) => d_law05_OpsAll_L0 a1 n a) (0 : Int) () h1 [0, 1, 2, 6] [] (fun (a : Int) (k : Unit) => [(7, int a)]) (fun a k => []) (fun _ => rfl) ⟨leA, ?_⟩
  rintro n y1_1 _ hm h1
  replace h1 : d_law05_OpsAll_L0 a1 (n + 1) y1_1 = some _ := h1
  rw [d_law05_OpsAll_L0] at h1
  refine tc tbk 5 (.mk ?_)
  refine sY (yv_len_sl rfl Try.underlying22 rfl (lst_len _)) ?_
  refine nb tbk h1 fun x11 h1 => ?_
  refine tr tbk 1 (.mk ?_)
  cases x11
  replace h1 := cf h1
  refine tc tbk 2 (.mk ?_)
  exact lfE h1 () leA
  replace h1 := ct h1
  refine tc tbk 5 (.mk ?_)
  refine c_drawE [0, 0, 3, 7, 15, 0, 0, 96, 224, 511, 1023] (fun i => []) (fun i => []) (fun i => true) [0, 1, 2, 3, 4, 5, 6, 7, 8, 9, 10] mixed (by kernel_rfl) ?_; intro K hK
  iterate 2 refine eM ?_
  obtain ⟨x12, e12, h1⟩ := bind_e h1
  refine eP (fun H hH => yv_ixT rfl Try.underlying22 sh28 rfl rfl e12) ?_
  refine eP (fun H hH => yv_load rfl sh28 rfl (.pp _) rfl) ?_
  obtain ⟨x13, e13, h1⟩ := bind_e h1
  refine eP (fun H hH => yv_callP rfl rfl (.cons rfl .nil) cal8 (CvL.refl _) (d_ops_Check_c e13)) ?_
  iterate 2 refine eM ?_
  obtain ⟨x14, e14, h1⟩ := bind_e h1
  refine eP (fun H hH => yv_ixT rfl Try.underlying22 sh28 rfl rfl e14) ?_
  refine eP (fun H hH => yv_load rfl sh28 rfl (.pp _) rfl) ?_
  obtain ⟨x15, e15, h1⟩ := bind_e h1
  refine eP (fun H hH => yv_callP rfl rfl (.cons rfl .nil) cal9 (CvL.refl _) (d_ref05_Check_c e15)) ?_
  obtain ⟨x16, e16, h1⟩ := bnd_e h1
  refine eP (fun H hH => yv_to (y := boo x16) (yv_bneq rfl Try.underlying4 rfl rfl) (congrArg boo e16)) ?_
  refine de_nil (hK _ ?_)
  cases x16
  replace h1 := cf h1
  refine tc tbk 5 (.mk ?_)
  refine ni tbk h1 fun x17 h1 => ?_
  refine tr tbk 2 (.mk ?_)
  exact bk x17 () h1 leA
  replace h1 := ct h1
  refine tc tbk 5 (.mk ?_)
  obtain ⟨c18, hX, hj⟩ := esc_e h1; subst hj; replace h0 := hX.trans (sel_r h0)
  obtain rfl := nxt_e h0
  refine wR hret (rT .nil) ?_
  exact .refl _
  rintro _ _ h0
  refine tc tbk 3 (.mk ?_)
  obtain ⟨x19, e19, h0⟩ := bind_e h0
  refine sC cal10 (d_ops_Read_c e19) ?_
  refine tr tbk 9 (.mk ?_)
  obtain ⟨x20, e20, h0⟩ := bind_e h0
  refine sC cal11 (d_ref05_Read_c e20) ?_
  refine tr tbk 7 (.mk ?_)
  refine jn h0 [] [] (fun (a : Bool) (k : Unit) => [(6, boo a)]) (fun a k => []) ⟨fun j21 h1 => ?_, ?_⟩
  refine tc tbk 3 (.mk ?_)
  obtain ⟨x22, e22, h1⟩ := bind_e h1
  refine sC cal12 (d_ops_Same_c e22) ?_
  refine tr tbk 2 (.mk ?_)
  obtain ⟨x23, e23, h1⟩ := bind_e h1
  refine sC cal13 (d_ref05_Same_c e23) ?_
  obtain ⟨x24, e24, h1⟩ := bnd_e h1
  refine sY (yv_to (y := boo x24) (yv_beql rfl Try.underlying4 rfl rfl) (congrArg boo e24)) ?_
  refine tr tbk 1 (.mk ?_)
  cases x24
  replace h1 := cf h1
  refine tr tbk 21 (.mk ?_)
  exact lf h1 () leA
  replace h1 := ct h1
  refine tr tbk 1 (.mk ?_)
  obtain ⟨x25, e25, h1⟩ := bind_e h1
  refine sC cal14 (d_ops_Bytes_c e25) ?_
  refine tr tbk 1 (.mk ?_)
  obtain ⟨x26, e26, h1⟩ := bind_e h1
  refine sC cal15 (d_ref05_Bytes_c e26) ?_
  obtain ⟨x27, e27, h1⟩ := bnd_e h1
  refine sY (yv_to (y := boo x27) (yv_seql rfl rfl rfl) (congrArg boo e27)) ?_
  refine tr tbk 2 (.mk ?_)
  cases x27
  replace h1 := cf h1
  refine tr tbk 14 (.mk ?_)
  exact lf h1 () leA
  replace h1 := ct h1
  refine tr tbk 2 (.mk ?_)
  obtain ⟨x28, e28, h1⟩ := bind_e h1
  refine sC cal13 (d_ref05_Same_c e28) ?_
  refine tr tbk 2 (.mk ?_)
  cases x28
  replace h1 := cf h1
  refine tr tbk 9 (.mk ?_)
  exact lf h1 () leA
  replace h1 := ct h1
  refine tr tbk 2 (.mk ?_)
  refine nb tbk h1 fun x29 h1 => ?_
  refine tr tbk 2 (.mk ?_)
  cases x29
  replace h1 := cf h1
  refine tr tbk 4 (.mk ?_)
  exact lf h1 () leA
  replace h1 := ct h1
  obtain ⟨x30, e30, h1⟩ := bind_e h1
  refine sC cal7 (d_law05_awake_c e30) ?_
  refine tr tbk 3 (.mk ?_)
  exact lf h1 () leA
  rintro y3_1 _ h0
  obtain rfl := nxt_e h0
  refine wR hret (rT .nil) ?_
  exact .refl _
  replace h0 := ct h0
  refine tc tbk 3 (.mk ?_)
  obtain ⟨x31, e31, h0⟩ := bind_e h0
  refine sC cal7 (d_law05_awake_c e31) ?_
  refine tr tbk 2 (.mk ?_)
  obtain rfl := nxt_e h0
  refine wR hret (rT .nil) ?_
  exact .refl _
end Go.Pv
