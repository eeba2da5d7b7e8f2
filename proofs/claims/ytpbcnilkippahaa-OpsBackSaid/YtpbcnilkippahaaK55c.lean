import Derived.Test.YtpbcnilkippahaaK55b
set_option linter.unusedVariables false
namespace Go.Pv
open Go.Proofs
set_option maxRecDepth 10000
set_option maxHeartbeats 1000000
def d_ref05_part (n : Nat) (a1 : GOp) (a2 : GOp) (a3 : Int) : Option (GOp × Bool) :=
bnd (decide (a3 = 101)) fun x7 =>
cond x7 ((show Option (Bool) from
bnd (decide (a1.E ≥ 0)) fun x37 =>
cond x37 (bnd (decide (a1.E < 4)) fun x38 =>
some (x38 : Bool)) (some (false : Bool))).bind <| fun y5_1 =>
some (((⟨a2.Kind, a1.E, a2.Item, a2.Loc, a2.To, a2.Qty, a2.Amount, a2.Ref, a2.Refs⟩ : GOp) : GOp), (y5_1 : Bool))) (bnd (decide (a3 = 105)) fun x8 =>
cond x8 ((show Option (Bool) from
bnd (decide (a1.Item ≥ 0)) fun x34 =>
cond x34 (bnd (decide (a1.Item < 5)) fun x35 =>
some (x35 : Bool)) (some (false : Bool))).bind <| fun y4_1 =>
some (((⟨a2.Kind, a2.E, a1.Item, a2.Loc, a2.To, a2.Qty, a2.Amount, a2.Ref, a2.Refs⟩ : GOp) : GOp), (y4_1 : Bool))) (bnd (decide (a3 = 108)) fun x9 =>
cond x9 ((show Option (Bool) from
bnd (decide (a1.Loc ≥ 0)) fun x31 =>
cond x31 (bnd (decide (a1.Loc < 2)) fun x32 =>
some (x32 : Bool)) (some (false : Bool))).bind <| fun y3_1 =>
some (((⟨a2.Kind, a2.E, a2.Item, a1.Loc, a2.To, a2.Qty, a2.Amount, a2.Ref, a2.Refs⟩ : GOp) : GOp), (y3_1 : Bool))) (bnd (decide (a3 = 116)) fun x10 =>
cond x10 ((d_ref05_to a1).bind fun x29 =>
some (((⟨a2.Kind, a2.E, a2.Item, a2.Loc, a1.To, a2.Qty, a2.Amount, a2.Ref, a2.Refs⟩ : GOp) : GOp), (x29 : Bool))) (bnd (decide (a3 = 113)) fun x11 =>
cond x11 ((show Option (Bool) from
bnd (decide (a1.Qty ≤ 1073741824)) fun x25 =>
cond x25 (bnd (decide (a1.Qty ≥ 1)) fun x26 =>
cond x26 (some (true : Bool)) (bnd (decide (a1.Qty = 0)) fun x27 =>
cond x27 (bnd (decide (a1.Kind = 7)) fun x28 =>
some (x28 : Bool)) (some (false : Bool)))) (some (false : Bool))).bind <| fun y2_1 =>
some (((⟨a2.Kind, a2.E, a2.Item, a2.Loc, a2.To, a1.Qty, a2.Amount, a2.Ref, a2.Refs⟩ : GOp) : GOp), (y2_1 : Bool))) (bnd (decide (a3 = 97)) fun x12 =>
cond x12 ((show Option (Bool) from
bnd (decide (a1.Amount ≥ 0)) fun x19 =>
cond x19 (bnd (decide (a1.Amount ≤ 1125899906842624)) fun x20 =>
cond x20 (bnd (decide (a1.Amount ≤ 1073741824)) fun x21 =>
cond x21 (some (true : Bool)) (bnd (decide (a1.Kind ≠ 9)) fun x22 =>
cond x22 (bnd (decide (a1.Kind ≠ 10)) fun x23 =>
some (x23 : Bool)) (some (false : Bool)))) (some (false : Bool))) (some (false : Bool))).bind <| fun y1_1 =>
some (((⟨a2.Kind, a2.E, a2.Item, a2.Loc, a2.To, a2.Qty, a1.Amount, a2.Ref, a2.Refs⟩ : GOp) : GOp), (y1_1 : Bool))) (bnd (decide (a3 = 114)) fun x13 =>
cond x13 ((show Option (Bool) from
bnd (decide (a1.Ref ≥ 0)) fun x16 =>
cond x16 (bnd (decide (a1.Ref < 40)) fun x17 =>
some (x17 : Bool)) (some (false : Bool))).bind <| fun y0_1 =>
some (((⟨a2.Kind, a2.E, a2.Item, a2.Loc, a2.To, a2.Qty, a2.Amount, a1.Ref, a2.Refs⟩ : GOp) : GOp), (y0_1 : Bool))) ((d_ref05_refs n a1.Refs).bind fun x14 =>
some (((⟨a2.Kind, a2.E, a2.Item, a2.Loc, a2.To, a2.Qty, a2.Amount, a2.Ref, a1.Refs⟩ : GOp) : GOp), (x14 : Bool)))))))))
theorem d_ref05_part_c {n : Nat} {a1 : GOp} {a2 : GOp} {a3 : Int} {r : GOp × Bool} (h0 : d_ref05_part n a1 a2 a3 = some r) : PP Try.prog 26 [.agg (GOp.av a1), .agg (GOp.av a2), .sc (.int .u8 a3)] (fun y => y = .tup [.agg (GOp.av r.1), boo r.2]) := by
  unfold d_ref05_part at h0
  refine pp_of_pc (R0 := fun y H => Cv (frzH H) y (.tup [.agg (GOp.av r.1), boo r.2])) ?_ (fun y H hc => ⟨_, rfl, .tup (pvl2 ((fun (a : GOp) => PV.agg (GOp.pvc a)) (r.1)) (pvB (r.2))), hc⟩)
  refine pcw (c := _) Try.func26 rfl rfl ?_; intro Q hret hnorm
  refine tc tbk 2 (.mk ?_)
  refine sB 1 fun v4 => ?_
  refine sB 2 fun v5 => ?_
  refine sA 3 z28 fun v6 => ?_
  refine tr tbk 10 (.mk ?_)
  refine nb tbk h0 fun x7 h0 => ?_
  refine tr tbk 2 (.mk ?_)
  cases x7
  replace h0 := cf h0
  refine tc tbk 3 (.mk ?_)
  refine nb tbk h0 fun x8 h0 => ?_
  refine tr tbk 2 (.mk ?_)
  cases x8
  replace h0 := cf h0
  refine tc tbk 3 (.mk ?_)
  refine nb tbk h0 fun x9 h0 => ?_
  refine tr tbk 2 (.mk ?_)
  cases x9
  replace h0 := cf h0
  refine tc tbk 3 (.mk ?_)
  refine nb tbk h0 fun x10 h0 => ?_
  refine tr tbk 2 (.mk ?_)
  cases x10
  replace h0 := cf h0
  refine tc tbk 3 (.mk ?_)
  refine nb tbk h0 fun x11 h0 => ?_
  refine tr tbk 2 (.mk ?_)
  cases x11
  replace h0 := cf h0
  refine tc tbk 3 (.mk ?_)
  refine nb tbk h0 fun x12 h0 => ?_
  refine tr tbk 2 (.mk ?_)
  cases x12
  replace h0 := cf h0
  refine tc tbk 3 (.mk ?_)
  refine nb tbk h0 fun x13 h0 => ?_
  refine tr tbk 2 (.mk ?_)
  cases x13
  replace h0 := cf h0
  refine tc tbk 8 (.mk ?_)
  refine sS ⟨28, 9, true, true, v5, [[int a2.Kind, int a2.E, int a2.Item, int a2.Loc, int a2.To, int a2.Qty, int a2.Amount, int a2.Ref, lst 1 fI a1.Refs]]⟩ sh26 ?_
  refine tr tbk 2 (.mk ?_)
  refine c_drawE [0, 0, 2, 6, 15, 31] (rl [(0, [2]), (1, [1]), (2, [1])] []) (rl [(4, [])] [1, 2]) (rl [(4, false)] true) [0, 1, 2, 3, 4, 5] mixed (by kernel_rfl) ?_; intro K hK
  refine eL sh28 ?_
  refine eF fo28_8 ?_
  refine eL sh26 ?_
  obtain ⟨x14, e14, h0⟩ := bind_e h0
  refine eP (fun H hH => yv_callP rfl rfl (.cons rfl .nil) cal48 (CvL.refl _) (d_ref05_refs_c e14)) ?_
  refine de_eff0 rfl rfl rfl rfl (Yield.weak (yl_ob (ob' := (⟨28, 9, true, true, v6, [[int a2.Kind, int a2.E, int a2.Item, int a2.Loc, int a2.To, int a2.Qty, int a2.Amount, int a2.Ref, lst 1 fI a1.Refs]]⟩ : AObj)) (yl_store rfl sh28 rfl rfl rfl rfl rfl rfl rfl rfl rfl) rfl) (fun _ h => h) (fun _ _ => trivial)) (by rintro _ _ ⟨rfl, rfl⟩; exact trivial) ?_; rintro _ _ ⟨rfl, rfl⟩
  refine eA ?_
  refine de_nil (hK _ ?_)
  obtain rfl := nxt_e h0
  refine wR hret (rC sh28 (rT .nil)) ?_
  exact .refl _
  replace h0 := ct h0
  refine tc tbk 6 (.mk ?_)
  refine sS ⟨28, 9, true, true, v5, [[int a2.Kind, int a2.E, int a2.Item, int a2.Loc, int a2.To, int a2.Qty, int a2.Amount, int a1.Ref, lst 1 fI a2.Refs]]⟩ sh3 ?_
  refine tr tbk 2 (.mk ?_)
  refine jn h0 [3, 4, 6] [1, 2] (fun (a : Bool) (k : Unit) => [(7, boo a)]) (fun a k => [(3, ⟨28, 9, true, true, v6, [[int a2.Kind, int a2.E, int a2.Item, int a2.Loc, int a2.To, int a2.Qty, int a2.Amount, int a1.Ref, lst 1 fI a2.Refs]]⟩)]) ⟨fun j15 h1 => ?_, ?_⟩
  refine c_drawE [0, 0, 2, 6, 14, 30, 62, 126, 254, 31, 1023] (rl [(0, [2]), (1, [1]), (2, [1]), (5, [1]), (6, [1])] []) (rl [(9, [1])] [1, 2]) (rl [(9, false)] true) [0, 1, 2, 3, 4, 5, 6, 7, 8, 9, 10] mixed (by kernel_rfl) ?_; intro K hK
  refine eL sh28 ?_
  refine eF fo28_7 ?_
  refine eL sh3 ?_
  obtain ⟨x16, e16, h1⟩ := bnd_e h1
  refine eP (fun H hH => yv_to (y := boo x16) (yv_geq rfl rfl rfl) (congrArg boo e16)) ?_
  refine eM ?_
  cases x16
  replace h1 := cf h1
  refine de_skip rfl rfl rfl ?_
  refine de_skip rfl rfl rfl ?_
  refine de_skip rfl rfl rfl ?_
  refine eP (fun H hH => yv_pick rfl rfl (fun _ => rfl) (fun _ => rfl) rfl) ?_
  refine de_eff0 rfl rfl rfl rfl (Yield.weak (yl_ob (ob' := (⟨28, 9, true, true, v6, [[int a2.Kind, int a2.E, int a2.Item, int a2.Loc, int a2.To, int a2.Qty, int a2.Amount, int a1.Ref, lst 1 fI a2.Refs]]⟩ : AObj)) (yl_store rfl sh28 rfl rfl rfl rfl rfl rfl rfl rfl rfl) rfl) (fun _ h => h) (fun _ _ => trivial)) (by rintro _ _ ⟨rfl, rfl⟩; exact ⟨rfl, trivial⟩) ?_; rintro _ _ ⟨rfl, rfl⟩
  refine eA ?_
  refine de_nil (hK _ ?_)
  exact lf h1 () leA
  replace h1 := ct h1
  refine eF fo28_7 ?_
  refine eL sh3 ?_
  obtain ⟨x17, e17, h1⟩ := bnd_e h1
  refine eP (fun H hH => yv_to (y := boo x17) (yv_lss rfl rfl rfl) (congrArg boo e17)) ?_
  refine eP (fun H hH => yv_pick rfl rfl (fun _ => rfl) (fun _ => rfl) rfl) ?_
  refine de_eff0 rfl rfl rfl rfl (Yield.weak (yl_ob (ob' := (⟨28, 9, true, true, v6, [[int a2.Kind, int a2.E, int a2.Item, int a2.Loc, int a2.To, int a2.Qty, int a2.Amount, int a1.Ref, lst 1 fI a2.Refs]]⟩ : AObj)) (yl_store rfl sh28 rfl rfl rfl rfl rfl rfl rfl rfl rfl) rfl) (fun _ h => h) (fun _ _ => trivial)) (by rintro _ _ ⟨rfl, rfl⟩; exact ⟨rfl, trivial⟩) ?_; rintro _ _ ⟨rfl, rfl⟩
  refine eA ?_
  refine de_nil (hK _ ?_)
  exact lf h1 () leA
  rintro y0_1 _ h0
  obtain rfl := nxt_e h0
  refine wR hret (rC sh28 (rT .nil)) ?_
  exact .refl _
  replace h0 := ct h0
  refine tc tbk 6 (.mk ?_)
  refine sS ⟨28, 9, true, true, v5, [[int a2.Kind, int a2.E, int a2.Item, int a2.Loc, int a2.To, int a2.Qty, int a1.Amount, int a2.Ref, lst 1 fI a2.Refs]]⟩ sh3 ?_
  refine tr tbk 2 (.mk ?_)
  refine jn h0 [3, 4, 6] [1, 2] (fun (a : Bool) (k : Unit) => [(7, boo a)]) (fun a k => [(3, ⟨28, 9, true, true, v6, [[int a2.Kind, int a2.E, int a2.Item, int a2.Loc, int a2.To, int a2.Qty, int a1.Amount, int a2.Ref, lst 1 fI a2.Refs]]⟩)]) ⟨fun j18 h1 => ?_, ?_⟩
  refine c_drawE [0, 0, 2, 6, 14, 30, 62, 126, 254, 510, 1022, 2046, 4094, 8190, 16382, 32766, 65534, 131070, 262142, 524286, 1048574, 2097150, 4194302, 8388606, 262143, 33554431] (rl [(0, [2]), (1, [1]), (2, [1]), (5, [1]), (6, [1]), (10, [1]), (11, [1]), (14, [1]), (15, [1]), (18, [1]), (19, [1])] []) (rl [(24, [1])] [1, 2]) (rl [(24, false)] true) [0, 1, 2, 3, 4, 5, 6, 7, 8, 9, 10, 11, 12, 13, 14, 15, 16, 17, 18, 19, 20, 21, 22, 23, 24, 25] mixed (by kernel_rfl) ?_; intro K hK
  refine eL sh28 ?_
  refine eF fo28_6 ?_
  refine eL sh3 ?_
  obtain ⟨x19, e19, h1⟩ := bnd_e h1
  refine eP (fun H hH => yv_to (y := boo x19) (yv_geq rfl rfl rfl) (congrArg boo e19)) ?_
  refine eM ?_
  cases x19
  replace h1 := cf h1
  refine de_skip rfl rfl rfl ?_
  refine de_skip rfl rfl rfl ?_
  refine de_skip rfl rfl rfl ?_
  refine eP (fun H hH => yv_pick rfl rfl (fun _ => rfl) (fun _ => rfl) rfl) ?_
  refine eM ?_
  refine de_skip rfl rfl rfl ?_
  refine de_skip rfl rfl rfl ?_
  refine de_skip rfl rfl rfl ?_
  refine de_skip rfl rfl rfl ?_
  refine de_skip rfl rfl rfl ?_
  refine de_skip rfl rfl rfl ?_
  refine de_skip rfl rfl rfl ?_
  refine de_skip rfl rfl rfl ?_
  refine de_skip rfl rfl rfl ?_
  refine de_skip rfl rfl rfl ?_
  refine de_skip rfl rfl rfl ?_
  refine de_skip rfl rfl rfl ?_
  refine de_skip rfl rfl rfl ?_
  refine eP (fun H hH => yv_pick rfl rfl (fun _ => rfl) (fun _ => rfl) rfl) ?_
  refine de_eff0 rfl rfl rfl rfl (Yield.weak (yl_ob (ob' := (⟨28, 9, true, true, v6, [[int a2.Kind, int a2.E, int a2.Item, int a2.Loc, int a2.To, int a2.Qty, int a1.Amount, int a2.Ref, lst 1 fI a2.Refs]]⟩ : AObj)) (yl_store rfl sh28 rfl rfl rfl rfl rfl rfl rfl rfl rfl) rfl) (fun _ h => h) (fun _ _ => trivial)) (by rintro _ _ ⟨rfl, rfl⟩; exact ⟨rfl, trivial⟩) ?_; rintro _ _ ⟨rfl, rfl⟩
  refine eA ?_
  refine de_nil (hK _ ?_)
  exact lf h1 () leA
  replace h1 := ct h1
  refine eF fo28_6 ?_
  refine eL sh3 ?_
  obtain ⟨x20, e20, h1⟩ := bnd_e h1
  refine eP (fun H hH => yv_to (y := boo x20) (yv_leq rfl rfl rfl) (congrArg boo e20)) ?_
  refine eP (fun H hH => yv_pick rfl rfl (fun _ => rfl) (fun _ => rfl) rfl) ?_
  refine eM ?_
  cases x20
  replace h1 := cf h1
  refine de_skip rfl rfl rfl ?_
  refine de_skip rfl rfl rfl ?_
  refine de_skip rfl rfl rfl ?_
  refine de_skip rfl rfl rfl ?_
  refine de_skip rfl rfl rfl ?_
  refine de_skip rfl rfl rfl ?_
  refine de_skip rfl rfl rfl ?_
  refine de_skip rfl rfl rfl ?_
  refine de_skip rfl rfl rfl ?_
  refine de_skip rfl rfl rfl ?_
  refine de_skip rfl rfl rfl ?_
  refine de_skip rfl rfl rfl ?_
  refine de_skip rfl rfl rfl ?_
  refine eP (fun H hH => yv_pick rfl rfl (fun _ => rfl) (fun _ => rfl) rfl) ?_
  refine de_eff0 rfl rfl rfl rfl (Yield.weak (yl_ob (ob' := (⟨28, 9, true, true, v6, [[int a2.Kind, int a2.E, int a2.Item, int a2.Loc, int a2.To, int a2.Qty, int a1.Amount, int a2.Ref, lst 1 fI a2.Refs]]⟩ : AObj)) (yl_store rfl sh28 rfl rfl rfl rfl rfl rfl rfl rfl rfl) rfl) (fun _ h => h) (fun _ _ => trivial)) (by rintro _ _ ⟨rfl, rfl⟩; exact ⟨rfl, trivial⟩) ?_; rintro _ _ ⟨rfl, rfl⟩
  refine eA ?_
  refine de_nil (hK _ ?_)
  exact lf h1 () leA
  replace h1 := ct h1
  refine eF fo28_6 ?_
  refine eL sh3 ?_
  obtain ⟨x21, e21, h1⟩ := bnd_e h1
  refine eP (fun H hH => yv_to (y := boo x21) (yv_leq rfl rfl rfl) (congrArg boo e21)) ?_
  refine eM ?_
  cases x21
  replace h1 := cf h1
  refine eF fo28_0 ?_
  refine eL sh3 ?_
  obtain ⟨x22, e22, h1⟩ := bnd_e h1
  refine eP (fun H hH => yv_to (y := boo x22) (yv_neq rfl rfl rfl) (congrArg boo e22)) ?_
  refine eM ?_
  cases x22
  replace h1 := cf h1
  refine de_skip rfl rfl rfl ?_
  refine de_skip rfl rfl rfl ?_
  refine de_skip rfl rfl rfl ?_
  refine eP (fun H hH => yv_pick rfl rfl (fun _ => rfl) (fun _ => rfl) rfl) ?_
  refine eP (fun H hH => yv_pick rfl rfl (fun _ => rfl) (fun _ => rfl) rfl) ?_
  refine eP (fun H hH => yv_pick rfl rfl (fun _ => rfl) (fun _ => rfl) rfl) ?_
  refine de_eff0 rfl rfl rfl rfl (Yield.weak (yl_ob (ob' := (⟨28, 9, true, true, v6, [[int a2.Kind, int a2.E, int a2.Item, int a2.Loc, int a2.To, int a2.Qty, int a1.Amount, int a2.Ref, lst 1 fI a2.Refs]]⟩ : AObj)) (yl_store rfl sh28 rfl rfl rfl rfl rfl rfl rfl rfl rfl) rfl) (fun _ h => h) (fun _ _ => trivial)) (by rintro _ _ ⟨rfl, rfl⟩; exact ⟨rfl, trivial⟩) ?_; rintro _ _ ⟨rfl, rfl⟩
  refine eA ?_
  refine de_nil (hK _ ?_)
  exact lf h1 () leA
  replace h1 := ct h1
  refine eF fo28_0 ?_
  refine eL sh3 ?_
  obtain ⟨x23, e23, h1⟩ := bnd_e h1
  refine eP (fun H hH => yv_to (y := boo x23) (yv_neq rfl rfl rfl) (congrArg boo e23)) ?_
  refine eP (fun H hH => yv_pick rfl rfl (fun _ => rfl) (fun _ => rfl) rfl) ?_
  refine eP (fun H hH => yv_pick rfl rfl (fun _ => rfl) (fun _ => rfl) rfl) ?_
  refine eP (fun H hH => yv_pick rfl rfl (fun _ => rfl) (fun _ => rfl) rfl) ?_
  refine de_eff0 rfl rfl rfl rfl (Yield.weak (yl_ob (ob' := (⟨28, 9, true, true, v6, [[int a2.Kind, int a2.E, int a2.Item, int a2.Loc, int a2.To, int a2.Qty, int a1.Amount, int a2.Ref, lst 1 fI a2.Refs]]⟩ : AObj)) (yl_store rfl sh28 rfl rfl rfl rfl rfl rfl rfl rfl rfl) rfl) (fun _ h => h) (fun _ _ => trivial)) (by rintro _ _ ⟨rfl, rfl⟩; exact ⟨rfl, trivial⟩) ?_; rintro _ _ ⟨rfl, rfl⟩
  refine eA ?_
  refine de_nil (hK _ ?_)
  exact lf h1 () leA
  replace h1 := ct h1
  refine de_skip rfl rfl rfl ?_
  refine de_skip rfl rfl rfl ?_
  refine de_skip rfl rfl rfl ?_
  refine de_skip rfl rfl rfl ?_
  refine de_skip rfl rfl rfl ?_
  refine de_skip rfl rfl rfl ?_
  refine de_skip rfl rfl rfl ?_
  refine de_skip rfl rfl rfl ?_
  refine eP (fun H hH => yv_pick rfl rfl (fun _ => rfl) (fun _ => rfl) rfl) ?_
  refine eP (fun H hH => yv_pick rfl rfl (fun _ => rfl) (fun _ => rfl) rfl) ?_
  refine de_eff0 rfl rfl rfl rfl (Yield.weak (yl_ob (ob' := (⟨28, 9, true, true, v6, [[int a2.Kind, int a2.E, int a2.Item, int a2.Loc, int a2.To, int a2.Qty, int a1.Amount, int a2.Ref, lst 1 fI a2.Refs]]⟩ : AObj)) (yl_store rfl sh28 rfl rfl rfl rfl rfl rfl rfl rfl rfl) rfl) (fun _ h => h) (fun _ _ => trivial)) (by rintro _ _ ⟨rfl, rfl⟩; exact ⟨rfl, trivial⟩) ?_; rintro _ _ ⟨rfl, rfl⟩
  refine eA ?_
  refine de_nil (hK _ ?_)
  exact lf h1 () leA
  rintro y1_1 _ h0
  obtain rfl := nxt_e h0
  refine wR hret (rC sh28 (rT .nil)) ?_
  exact .refl _
  replace h0 := ct h0
  refine tc tbk 6 (.mk ?_)
  refine sS ⟨28, 9, true, true, v5, [[int a2.Kind, int a2.E, int a2.Item, int a2.Loc, int a2.To, int a1.Qty, int a2.Amount, int a2.Ref, lst 1 fI a2.Refs]]⟩ sh3 ?_
  refine tr tbk 2 (.mk ?_)
  refine jn h0 [3, 4, 6] [1, 2] (fun (a : Bool) (k : Unit) => [(7, boo a)]) (fun a k => [(3, ⟨28, 9, true, true, v6, [[int a2.Kind, int a2.E, int a2.Item, int a2.Loc, int a2.To, int a1.Qty, int a2.Amount, int a2.Ref, lst 1 fI a2.Refs]]⟩)]) ⟨fun j24 h1 => ?_, ?_⟩
  refine c_drawE [0, 0, 2, 6, 14, 30, 62, 126, 254, 510, 1022, 2046, 4094, 8190, 16382, 32766, 65534, 131070, 262142, 8191, 1048575] (rl [(0, [2]), (1, [1]), (2, [1]), (5, [1]), (6, [1]), (9, [1]), (10, [1]), (13, [1]), (14, [1])] []) (rl [(19, [1])] [1, 2]) (rl [(19, false)] true) [0, 1, 2, 3, 4, 5, 6, 7, 8, 9, 10, 11, 12, 13, 14, 15, 16, 17, 18, 19, 20] mixed (by kernel_rfl) ?_; intro K hK
  refine eL sh28 ?_
  refine eF fo28_5 ?_
  refine eL sh3 ?_
  obtain ⟨x25, e25, h1⟩ := bnd_e h1
  refine eP (fun H hH => yv_to (y := boo x25) (yv_leq rfl rfl rfl) (congrArg boo e25)) ?_
  refine eM ?_
  cases x25
  replace h1 := cf h1
  refine de_skip rfl rfl rfl ?_
  refine de_skip rfl rfl rfl ?_
  refine de_skip rfl rfl rfl ?_
  refine de_skip rfl rfl rfl ?_
  refine de_skip rfl rfl rfl ?_
  refine de_skip rfl rfl rfl ?_
  refine de_skip rfl rfl rfl ?_
  refine de_skip rfl rfl rfl ?_
  refine de_skip rfl rfl rfl ?_
  refine de_skip rfl rfl rfl ?_
  refine de_skip rfl rfl rfl ?_
  refine de_skip rfl rfl rfl ?_
  refine de_skip rfl rfl rfl ?_
  refine eP (fun H hH => yv_pick rfl rfl (fun _ => rfl) (fun _ => rfl) rfl) ?_
  refine de_eff0 rfl rfl rfl rfl (Yield.weak (yl_ob (ob' := (⟨28, 9, true, true, v6, [[int a2.Kind, int a2.E, int a2.Item, int a2.Loc, int a2.To, int a1.Qty, int a2.Amount, int a2.Ref, lst 1 fI a2.Refs]]⟩ : AObj)) (yl_store rfl sh28 rfl rfl rfl rfl rfl rfl rfl rfl rfl) rfl) (fun _ h => h) (fun _ _ => trivial)) (by rintro _ _ ⟨rfl, rfl⟩; exact ⟨rfl, trivial⟩) ?_; rintro _ _ ⟨rfl, rfl⟩
  refine eA ?_
  refine de_nil (hK _ ?_)
  exact lf h1 () leA
  replace h1 := ct h1
  refine eF fo28_5 ?_
  refine eL sh3 ?_
  obtain ⟨x26, e26, h1⟩ := bnd_e h1
  refine eP (fun H hH => yv_to (y := boo x26) (yv_geq rfl rfl rfl) (congrArg boo e26)) ?_
  refine eM ?_
  cases x26
  replace h1 := cf h1
  refine eF fo28_5 ?_
  refine eL sh3 ?_
  obtain ⟨x27, e27, h1⟩ := bnd_e h1
  refine eP (fun H hH => yv_to (y := boo x27) (yv_eql rfl rfl rfl) (congrArg boo e27)) ?_
  refine eM ?_
  cases x27
  replace h1 := cf h1
  refine de_skip rfl rfl rfl ?_
  refine de_skip rfl rfl rfl ?_
  refine de_skip rfl rfl rfl ?_
  refine eP (fun H hH => yv_pick rfl rfl (fun _ => rfl) (fun _ => rfl) rfl) ?_
  refine eP (fun H hH => yv_pick rfl rfl (fun _ => rfl) (fun _ => rfl) rfl) ?_
  refine eP (fun H hH => yv_pick rfl rfl (fun _ => rfl) (fun _ => rfl) rfl) ?_
  refine de_eff0 rfl rfl rfl rfl (Yield.weak (yl_ob (ob' := (⟨28, 9, true, true, v6, [[int a2.Kind, int a2.E, int a2.Item, int a2.Loc, int a2.To, int a1.Qty, int a2.Amount, int a2.Ref, lst 1 fI a2.Refs]]⟩ : AObj)) (yl_store rfl sh28 rfl rfl rfl rfl rfl rfl rfl rfl rfl) rfl) (fun _ h => h) (fun _ _ => trivial)) (by rintro _ _ ⟨rfl, rfl⟩; exact ⟨rfl, trivial⟩) ?_; rintro _ _ ⟨rfl, rfl⟩
  refine eA ?_
  refine de_nil (hK _ ?_)
  exact lf h1 () leA
  replace h1 := ct h1
  refine eF fo28_0 ?_
  refine eL sh3 ?_
  obtain ⟨x28, e28, h1⟩ := bnd_e h1
  refine eP (fun H hH => yv_to (y := boo x28) (yv_eql rfl rfl rfl) (congrArg boo e28)) ?_
  refine eP (fun H hH => yv_pick rfl rfl (fun _ => rfl) (fun _ => rfl) rfl) ?_
  refine eP (fun H hH => yv_pick rfl rfl (fun _ => rfl) (fun _ => rfl) rfl) ?_
  refine eP (fun H hH => yv_pick rfl rfl (fun _ => rfl) (fun _ => rfl) rfl) ?_
  refine de_eff0 rfl rfl rfl rfl (Yield.weak (yl_ob (ob' := (⟨28, 9, true, true, v6, [[int a2.Kind, int a2.E, int a2.Item, int a2.Loc, int a2.To, int a1.Qty, int a2.Amount, int a2.Ref, lst 1 fI a2.Refs]]⟩ : AObj)) (yl_store rfl sh28 rfl rfl rfl rfl rfl rfl rfl rfl rfl) rfl) (fun _ h => h) (fun _ _ => trivial)) (by rintro _ _ ⟨rfl, rfl⟩; exact ⟨rfl, trivial⟩) ?_; rintro _ _ ⟨rfl, rfl⟩
  refine eA ?_
  refine de_nil (hK _ ?_)
  exact lf h1 () leA
  replace h1 := ct h1
  refine de_skip rfl rfl rfl ?_
  refine de_skip rfl rfl rfl ?_
  refine de_skip rfl rfl rfl ?_
  refine de_skip rfl rfl rfl ?_
  refine de_skip rfl rfl rfl ?_
  refine de_skip rfl rfl rfl ?_
  refine de_skip rfl rfl rfl ?_
  refine de_skip rfl rfl rfl ?_
  refine eP (fun H hH => yv_pick rfl rfl (fun _ => rfl) (fun _ => rfl) rfl) ?_
  refine eP (fun H hH => yv_pick rfl rfl (fun _ => rfl) (fun _ => rfl) rfl) ?_
  refine de_eff0 rfl rfl rfl rfl (Yield.weak (yl_ob (ob' := (⟨28, 9, true, true, v6, [[int a2.Kind, int a2.E, int a2.Item, int a2.Loc, int a2.To, int a1.Qty, int a2.Amount, int a2.Ref, lst 1 fI a2.Refs]]⟩ : AObj)) (yl_store rfl sh28 rfl rfl rfl rfl rfl rfl rfl rfl rfl) rfl) (fun _ h => h) (fun _ _ => trivial)) (by rintro _ _ ⟨rfl, rfl⟩; exact ⟨rfl, trivial⟩) ?_; rintro _ _ ⟨rfl, rfl⟩
  refine eA ?_
  refine de_nil (hK _ ?_)
  exact lf h1 () leA
  rintro y2_1 _ h0
  obtain rfl := nxt_e h0
  refine wR hret (rC sh28 (rT .nil)) ?_
  exact .refl _
  replace h0 := ct h0
  refine tc tbk 6 (.mk ?_)
  refine sS ⟨28, 9, true, true, v5, [[int a2.Kind, int a2.E, int a2.Item, int a2.Loc, int a1.To, int a2.Qty, int a2.Amount, int a2.Ref, lst 1 fI a2.Refs]]⟩ sh3 ?_
  refine tr tbk 2 (.mk ?_)
  refine c_drawE [0, 0, 2, 7, 15] (rl [(0, [2]), (1, [1])] []) (rl [(3, [])] [1, 2]) (rl [(3, false)] true) [0, 1, 2, 3, 4] mixed (by kernel_rfl) ?_; intro K hK
  refine eL sh28 ?_
  refine eL sh28 ?_
  obtain ⟨x29, e29, h0⟩ := bind_e h0
  refine eP (fun H hH => yv_callP rfl rfl (.cons rfl .nil) cal47 (CvL.refl _) (d_ref05_to_c e29)) ?_
  refine de_eff0 rfl rfl rfl rfl (Yield.weak (yl_ob (ob' := (⟨28, 9, true, true, v6, [[int a2.Kind, int a2.E, int a2.Item, int a2.Loc, int a1.To, int a2.Qty, int a2.Amount, int a2.Ref, lst 1 fI a2.Refs]]⟩ : AObj)) (yl_store rfl sh28 rfl rfl rfl rfl rfl rfl rfl rfl rfl) rfl) (fun _ h => h) (fun _ _ => trivial)) (by rintro _ _ ⟨rfl, rfl⟩; exact trivial) ?_; rintro _ _ ⟨rfl, rfl⟩
  refine eA ?_
  refine de_nil (hK _ ?_)
  obtain rfl := nxt_e h0
  refine wR hret (rC sh28 (rT .nil)) ?_
  exact .refl _
  replace h0 := ct h0
  refine tc tbk 6 (.mk ?_)
  refine sS ⟨28, 9, true, true, v5, [[int a2.Kind, int a2.E, int a2.Item, int a1.Loc, int a2.To, int a2.Qty, int a2.Amount, int a2.Ref, lst 1 fI a2.Refs]]⟩ sh3 ?_
  refine tr tbk 2 (.mk ?_)
  refine jn h0 [3, 4, 6] [1, 2] (fun (a : Bool) (k : Unit) => [(7, boo a)]) (fun a k => [(3, ⟨28, 9, true, true, v6, [[int a2.Kind, int a2.E, int a2.Item, int a1.Loc, int a2.To, int a2.Qty, int a2.Amount, int a2.Ref, lst 1 fI a2.Refs]]⟩)]) ⟨fun j30 h1 => ?_, ?_⟩
  refine c_drawE [0, 0, 2, 6, 14, 30, 62, 126, 254, 31, 1023] (rl [(0, [2]), (1, [1]), (2, [1]), (5, [1]), (6, [1])] []) (rl [(9, [1])] [1, 2]) (rl [(9, false)] true) [0, 1, 2, 3, 4, 5, 6, 7, 8, 9, 10] mixed (by kernel_rfl) ?_; intro K hK
  refine eL sh28 ?_
  refine eF fo28_3 ?_
  refine eL sh3 ?_
  obtain ⟨x31, e31, h1⟩ := bnd_e h1
  refine eP (fun H hH => yv_to (y := boo x31) (yv_geq rfl rfl rfl) (congrArg boo e31)) ?_
  refine eM ?_
  cases x31
  replace h1 := cf h1
  refine de_skip rfl rfl rfl ?_
  refine de_skip rfl rfl rfl ?_
  refine de_skip rfl rfl rfl ?_
  refine eP (fun H hH => yv_pick rfl rfl (fun _ => rfl) (fun _ => rfl) rfl) ?_
  refine de_eff0 rfl rfl rfl rfl (Yield.weak (yl_ob (ob' := (⟨28, 9, true, true, v6, [[int a2.Kind, int a2.E, int a2.Item, int a1.Loc, int a2.To, int a2.Qty, int a2.Amount, int a2.Ref, lst 1 fI a2.Refs]]⟩ : AObj)) (yl_store rfl sh28 rfl rfl rfl rfl rfl rfl rfl rfl rfl) rfl) (fun _ h => h) (fun _ _ => trivial)) (by rintro _ _ ⟨rfl, rfl⟩; exact ⟨rfl, trivial⟩) ?_; rintro _ _ ⟨rfl, rfl⟩
  refine eA ?_
  refine de_nil (hK _ ?_)
  exact lf h1 () leA
  replace h1 := ct h1
  refine eF fo28_3 ?_
  refine eL sh3 ?_
  obtain ⟨x32, e32, h1⟩ := bnd_e h1
  refine eP (fun H hH => yv_to (y := boo x32) (yv_lss rfl rfl rfl) (congrArg boo e32)) ?_
  refine eP (fun H hH => yv_pick rfl rfl (fun _ => rfl) (fun _ => rfl) rfl) ?_
  refine de_eff0 rfl rfl rfl rfl (Yield.weak (yl_ob (ob' := (⟨28, 9, true, true, v6, [[int a2.Kind, int a2.E, int a2.Item, int a1.Loc, int a2.To, int a2.Qty, int a2.Amount, int a2.Ref, lst 1 fI a2.Refs]]⟩ : AObj)) (yl_store rfl sh28 rfl rfl rfl rfl rfl rfl rfl rfl rfl) rfl) (fun _ h => h) (fun _ _ => trivial)) (by rintro _ _ ⟨rfl, rfl⟩; exact ⟨rfl, trivial⟩) ?_; rintro _ _ ⟨rfl, rfl⟩
  refine eA ?_
  refine de_nil (hK _ ?_)
  exact lf h1 () leA
  rintro y3_1 _ h0
  obtain rfl := nxt_e h0
  refine wR hret (rC sh28 (rT .nil)) ?_
  exact .refl _
  replace h0 := ct h0
  refine tc tbk 6 (.mk ?_)
  refine sS ⟨28, 9, true, true, v5, [[int a2.Kind, int a2.E, int a1.Item, int a2.Loc, int a2.To, int a2.Qty, int a2.Amount, int a2.Ref, lst 1 fI a2.Refs]]⟩ sh3 ?_
  refine tr tbk 2 (.mk ?_)
  refine jn h0 [3, 4, 6] [1, 2] (fun (a : Bool) (k : Unit) => [(7, boo a)]) (fun a k => [(3, ⟨28, 9, true, true, v6, [[int a2.Kind, int a2.E, int a1.Item, int a2.Loc, int a2.To, int a2.Qty, int a2.Amount, int a2.Ref, lst 1 fI a2.Refs]]⟩)]) ⟨fun j33 h1 => ?_, ?_⟩
  refine c_drawE [0, 0, 2, 6, 14, 30, 62, 126, 254, 31, 1023] (rl [(0, [2]), (1, [1]), (2, [1]), (5, [1]), (6, [1])] []) (rl [(9, [1])] [1, 2]) (rl [(9, false)] true) [0, 1, 2, 3, 4, 5, 6, 7, 8, 9, 10] mixed (by kernel_rfl) ?_; intro K hK
  refine eL sh28 ?_
  refine eF fo28_2 ?_
  refine eL sh3 ?_
  obtain ⟨x34, e34, h1⟩ := bnd_e h1
  refine eP (fun H hH => yv_to (y := boo x34) (yv_geq rfl rfl rfl) (congrArg boo e34)) ?_
  refine eM ?_
  cases x34
  replace h1 := cf h1
  refine de_skip rfl rfl rfl ?_
  refine de_skip rfl rfl rfl ?_
  refine de_skip rfl rfl rfl ?_
  refine eP (fun H hH => yv_pick rfl rfl (fun _ => rfl) (fun _ => rfl) rfl) ?_
  refine de_eff0 rfl rfl rfl rfl (Yield.weak (yl_ob (ob' := (⟨28, 9, true, true, v6, [[int a2.Kind, int a2.E, int a1.Item, int a2.Loc, int a2.To, int a2.Qty, int a2.Amount, int a2.Ref, lst 1 fI a2.Refs]]⟩ : AObj)) (yl_store rfl sh28 rfl rfl rfl rfl rfl rfl rfl rfl rfl) rfl) (fun _ h => h) (fun _ _ => trivial)) (by rintro _ _ ⟨rfl, rfl⟩; exact ⟨rfl, trivial⟩) ?_; rintro _ _ ⟨rfl, rfl⟩
  refine eA ?_
  refine de_nil (hK _ ?_)
  exact lf h1 () leA
  replace h1 := ct h1
  refine eF fo28_2 ?_
  refine eL sh3 ?_
  obtain ⟨x35, e35, h1⟩ := bnd_e h1
  refine eP (fun H hH => yv_to (y := boo x35) (yv_lss rfl rfl rfl) (congrArg boo e35)) ?_
  refine eP (fun H hH => yv_pick rfl rfl (fun _ => rfl) (fun _ => rfl) rfl) ?_
  refine de_eff0 rfl rfl rfl rfl (Yield.weak (yl_ob (ob' := (⟨28, 9, true, true, v6, [[int a2.Kind, int a2.E, int a1.Item, int a2.Loc, int a2.To, int a2.Qty, int a2.Amount, int a2.Ref, lst 1 fI a2.Refs]]⟩ : AObj)) (yl_store rfl sh28 rfl rfl rfl rfl rfl rfl rfl rfl rfl) rfl) (fun _ h => h) (fun _ _ => trivial)) (by rintro _ _ ⟨rfl, rfl⟩; exact ⟨rfl, trivial⟩) ?_; rintro _ _ ⟨rfl, rfl⟩
  refine eA ?_
  refine de_nil (hK _ ?_)
  exact lf h1 () leA
  rintro y4_1 _ h0
  obtain rfl := nxt_e h0
  refine wR hret (rC sh28 (rT .nil)) ?_
  exact .refl _
  replace h0 := ct h0
  refine tc tbk 6 (.mk ?_)
  refine sS ⟨28, 9, true, true, v5, [[int a2.Kind, int a1.E, int a2.Item, int a2.Loc, int a2.To, int a2.Qty, int a2.Amount, int a2.Ref, lst 1 fI a2.Refs]]⟩ sh3 ?_
  refine tr tbk 2 (.mk ?_)
  refine jn h0 [3, 4, 6] [1, 2] (fun (a : Bool) (k : Unit) => [(7, boo a)]) (fun a k => [(3, ⟨28, 9, true, true, v6, [[int a2.Kind, int a1.E, int a2.Item, int a2.Loc, int a2.To, int a2.Qty, int a2.Amount, int a2.Ref, lst 1 fI a2.Refs]]⟩)]) ⟨fun j36 h1 => ?_, ?_⟩
  refine c_drawE [0, 0, 2, 6, 14, 30, 62, 126, 254, 31, 1023] (rl [(0, [2]), (1, [1]), (2, [1]), (5, [1]), (6, [1])] []) (rl [(9, [1])] [1, 2]) (rl [(9, false)] true) [0, 1, 2, 3, 4, 5, 6, 7, 8, 9, 10] mixed (by kernel_rfl) ?_; intro K hK
  refine eL sh28 ?_
  refine eF fo28_1 ?_
  refine eL sh3 ?_
  obtain ⟨x37, e37, h1⟩ := bnd_e h1
  refine eP (fun H hH => yv_to (y := boo x37) (yv_geq rfl rfl rfl) (congrArg boo e37)) ?_
  refine eM ?_
  cases x37
  replace h1 := cf h1
  refine de_skip rfl rfl rfl ?_
  refine de_skip rfl rfl rfl ?_
  refine de_skip rfl rfl rfl ?_
  refine eP (fun H hH => yv_pick rfl rfl (fun _ => rfl) (fun _ => rfl) rfl) ?_
  refine de_eff0 rfl rfl rfl rfl (Yield.weak (yl_ob (ob' := (⟨28, 9, true, true, v6, [[int a2.Kind, int a1.E, int a2.Item, int a2.Loc, int a2.To, int a2.Qty, int a2.Amount, int a2.Ref, lst 1 fI a2.Refs]]⟩ : AObj)) (yl_store rfl sh28 rfl rfl rfl rfl rfl rfl rfl rfl rfl) rfl) (fun _ h => h) (fun _ _ => trivial)) (by rintro _ _ ⟨rfl, rfl⟩; exact ⟨rfl, trivial⟩) ?_; rintro _ _ ⟨rfl, rfl⟩
  refine eA ?_
  refine de_nil (hK _ ?_)
  exact lf h1 () leA
  replace h1 := ct h1
  refine eF fo28_1 ?_
  refine eL sh3 ?_
  obtain ⟨x38, e38, h1⟩ := bnd_e h1
  refine eP (fun H hH => yv_to (y := boo x38) (yv_lss rfl rfl rfl) (congrArg boo e38)) ?_
  refine eP (fun H hH => yv_pick rfl rfl (fun _ => rfl) (fun _ => rfl) rfl) ?_
  refine de_eff0 rfl rfl rfl rfl (Yield.weak (yl_ob (ob' := (⟨28, 9, true, true, v6, [[int a2.Kind, int a1.E, int a2.Item, int a2.Loc, int a2.To, int a2.Qty, int a2.Amount, int a2.Ref, lst 1 fI a2.Refs]]⟩ : AObj)) (yl_store rfl sh28 rfl rfl rfl rfl rfl rfl rfl rfl rfl) rfl) (fun _ h => h) (fun _ _ => trivial)) (by rintro _ _ ⟨rfl, rfl⟩; exact ⟨rfl, trivial⟩) ?_; rintro _ _ ⟨rfl, rfl⟩
  refine eA ?_
  refine de_nil (hK _ ?_)
  exact lf h1 () leA
  rintro y5_1 _ h0
  obtain rfl := nxt_e h0
  refine wR hret (rC sh28 (rT .nil)) ?_
  exact .refl _
def d_ref04_SameInts_L0 (a1 : List Int) (a2 : List Int) : Nat → Int → Option ((Unit) ⊕ (Bool))
  | 0, _ => none
  | n + 1, y0_1 =>
    bnd (decide (y0_1 < (a1.length : Int))) fun x5 =>
    cond x5 ((ix a1 y0_1).bind fun x6 =>
    (ix a2 y0_1).bind fun x7 =>
    bnd (decide (x6 ≠ x7)) fun x8 =>
    cond x8 (esc (some ((false : Bool)))) (bnd (w64 (y0_1 + 1)) fun x9 =>
    d_ref04_SameInts_L0 a1 a2 n (x9 : Int))) (brk ())
def d_ref04_SameInts (n : Nat) (a1 : List Int) (a2 : List Int) : Option (Bool) :=
bnd (decide ((a1.length : Int) ≠ (a2.length : Int))) fun x3 =>
cond x3 (some ((false : Bool))) ((show Option ((Unit) ⊕ (Bool)) from
d_ref04_SameInts_L0 a1 a2 n (0 : Int)).bind <| sel <| fun _ =>
some ((true : Bool)))
theorem d_ref04_SameInts_c {n : Nat} {a1 : List Int} {a2 : List Int} {r : Bool} (h0 : d_ref04_SameInts n a1 a2 = some r) : PP Try.prog 49 [lst 1 fI a1, lst 1 fI a2] (fun y => y = boo r) := by
  unfold d_ref04_SameInts at h0
  refine pp_of_pc (R0 := fun y H => Cv (frzH H) y (boo r)) ?_ (fun y H hc => ⟨_, rfl, pvB r, hc⟩)
  refine pcw (c := _) Try.func49 rfl rfl ?_; intro Q hret hnorm
  refine tc tbk 8 (.mk ?_)
  refine sY (yv_len_sl rfl Try.underlying26 rfl (lst_len _)) ?_
  refine tr tbk 1 (.mk ?_)
  refine sY (yv_len_sl rfl Try.underlying26 rfl (lst_len _)) ?_
  refine nb tbk h0 fun x3 h0 => ?_
  refine tr tbk 1 (.mk ?_)
  cases x3
  replace h0 := cf h0
  refine tc tbk 7 (.mk ?_)
  refine jnE h0 [4] [] (fun (a : Unit) (k : Unit) => []) (fun a k => []) ⟨fun j4 h1 h0 => ?_, ?_⟩
  refine tc tbk 1 (.mk ?_)
  refine lp (fun n (a : Int) => d_ref04_SameInts_L0 a1 a2 n a) (0 : Int) () h1 [0, 1, 4] [] (fun (a : Int) (k : Unit) => [(5, int a)]) (fun a k => []) (fun _ => rfl) ⟨leA, ?_⟩
  rintro n y0_1 _ hm h1
  replace h1 : d_ref04_SameInts_L0 a1 a2 (n + 1) y0_1 = some _ := h1
  rw [d_ref04_SameInts_L0] at h1
  refine tc tbk 5 (.mk ?_)
  refine sY (yv_len_sl rfl Try.underlying26 rfl (lst_len _)) ?_
  refine nb tbk h1 fun x5 h1 => ?_
  refine tr tbk 1 (.mk ?_)
  cases x5
  replace h1 := cf h1
  refine tc tbk 2 (.mk ?_)
  exact lfE h1 () leA
  replace h1 := ct h1
  refine tc tbk 5 (.mk ?_)
  refine c_drawE [0, 0, 3, 7, 0, 0, 48, 112, 255] (fun i => []) (fun i => []) (fun i => true) [0, 1, 2, 3, 4, 5, 6, 7, 8] mixed (by kernel_rfl) ?_; intro K hK
  iterate 2 refine eM ?_
  obtain ⟨x6, e6, h1⟩ := bind_e h1
  refine eP (fun H hH => yv_ixT rfl Try.underlying26 sh3 rfl rfl e6) ?_
  refine eP (fun H hH => yv_load rfl sh3 rfl (.pp _) rfl) ?_
  iterate 2 refine eM ?_
  obtain ⟨x7, e7, h1⟩ := bind_e h1
  refine eP (fun H hH => yv_ixT rfl Try.underlying26 sh3 rfl rfl e7) ?_
  refine eP (fun H hH => yv_load rfl sh3 rfl (.pp _) rfl) ?_
  obtain ⟨x8, e8, h1⟩ := bnd_e h1
  refine eP (fun H hH => yv_to (y := boo x8) (yv_neq rfl rfl rfl) (congrArg boo e8)) ?_
  refine de_nil (hK _ ?_)
  cases x8
  replace h1 := cf h1
  refine tc tbk 5 (.mk ?_)
  refine ni tbk h1 fun x9 h1 => ?_
  refine tr tbk 2 (.mk ?_)
  exact bk x9 () h1 leA
  replace h1 := ct h1
  refine tc tbk 5 (.mk ?_)
  obtain ⟨c10, hX, hj⟩ := esc_e h1; subst hj; replace h0 := hX.trans (sel_r h0)
  obtain rfl := nxt_e h0
  refine wR hret (rT .nil) ?_
  exact .refl _
  rintro _ _ h0
  refine tc tbk 4 (.mk ?_)
  obtain rfl := nxt_e h0
  refine wR hret (rT .nil) ?_
  exact .refl _
  replace h0 := ct h0
  refine tc tbk 5 (.mk ?_)
  obtain rfl := nxt_e h0
  refine wR hret (rT .nil) ?_
  exact .refl _
def d_ref05_same (n : Nat) (a1 : GOp) (a2 : GOp) : Option (Bool) :=
(show Option (Bool) from
bnd (decide (a1.Kind = a2.Kind)) fun x6 =>
cond x6 (bnd (decide (a1.E = a2.E)) fun x7 =>
cond x7 (bnd (decide (a1.Item = a2.Item)) fun x8 =>
cond x8 (bnd (decide (a1.Loc = a2.Loc)) fun x9 =>
cond x9 (bnd (decide (a1.To = a2.To)) fun x10 =>
cond x10 (bnd (decide (a1.Qty = a2.Qty)) fun x11 =>
cond x11 (bnd (decide (a1.Amount = a2.Amount)) fun x12 =>
cond x12 (bnd (decide (a1.Ref = a2.Ref)) fun x13 =>
cond x13 ((d_ref04_SameInts n a1.Refs a2.Refs).bind fun x14 =>
some (x14 : Bool)) (some (false : Bool))) (some (false : Bool))) (some (false : Bool))) (some (false : Bool))) (some (false : Bool))) (some (false : Bool))) (some (false : Bool))) (some (false : Bool))).bind <| fun y0_1 =>
some ((y0_1 : Bool))
theorem d_ref05_same_c {n : Nat} {a1 : GOp} {a2 : GOp} {r : Bool} (h0 : d_ref05_same n a1 a2 = some r) : PP Try.prog 27 [.agg (GOp.av a1), .agg (GOp.av a2)] (fun y => y = boo r) := by
  unfold d_ref05_same at h0
  refine pp_of_pc (R0 := fun y H => Cv (frzH H) y (boo r)) ?_ (fun y H hc => ⟨_, rfl, pvB r, hc⟩)
  refine pcw (c := _) Try.func27 rfl rfl ?_; intro Q hret hnorm
  refine tc tbk 2 (.mk ?_)
  refine sB 1 fun v3 => ?_
  refine sB 2 fun v4 => ?_
  refine tr tbk 3 (.mk ?_)
  refine jn h0 [] [] (fun (a : Bool) (k : Unit) => [(4, boo a)]) (fun a k => []) ⟨fun j5 h1 => ?_, ?_⟩
  refine tc tbk 5 (.mk ?_)
  refine nb tbk h1 fun x6 h1 => ?_
  refine tr tbk 1 (.mk ?_)
  cases x6
  replace h1 := cf h1
  refine tr tbk 57 (.mk ?_)
  exact lf h1 () leA
  replace h1 := ct h1
  refine tr tbk 4 (.mk ?_)
  refine nb tbk h1 fun x7 h1 => ?_
  refine tr tbk 2 (.mk ?_)
  cases x7
  replace h1 := cf h1
  refine tr tbk 50 (.mk ?_)
  exact lf h1 () leA
  replace h1 := ct h1
  refine tr tbk 4 (.mk ?_)
  refine nb tbk h1 fun x8 h1 => ?_
  refine tr tbk 2 (.mk ?_)
  cases x8
  replace h1 := cf h1
  refine tr tbk 43 (.mk ?_)
  exact lf h1 () leA
  replace h1 := ct h1
  refine tr tbk 4 (.mk ?_)
  refine nb tbk h1 fun x9 h1 => ?_
  refine tr tbk 2 (.mk ?_)
  cases x9
  replace h1 := cf h1
  refine tr tbk 36 (.mk ?_)
  exact lf h1 () leA
  replace h1 := ct h1
  refine tr tbk 4 (.mk ?_)
  refine nb tbk h1 fun x10 h1 => ?_
  refine tr tbk 2 (.mk ?_)
  cases x10
  replace h1 := cf h1
  refine tr tbk 29 (.mk ?_)
  exact lf h1 () leA
  replace h1 := ct h1
  refine tr tbk 4 (.mk ?_)
  refine nb tbk h1 fun x11 h1 => ?_
  refine tr tbk 2 (.mk ?_)
  cases x11
  replace h1 := cf h1
  refine tr tbk 22 (.mk ?_)
  exact lf h1 () leA
  replace h1 := ct h1
  refine tr tbk 4 (.mk ?_)
  refine nb tbk h1 fun x12 h1 => ?_
  refine tr tbk 2 (.mk ?_)
  cases x12
  replace h1 := cf h1
  refine tr tbk 15 (.mk ?_)
  exact lf h1 () leA
  replace h1 := ct h1
  refine tr tbk 4 (.mk ?_)
  refine nb tbk h1 fun x13 h1 => ?_
  refine tr tbk 2 (.mk ?_)
  cases x13
  replace h1 := cf h1
  refine tr tbk 8 (.mk ?_)
  exact lf h1 () leA
  replace h1 := ct h1
  refine tr tbk 4 (.mk ?_)
  obtain ⟨x14, e14, h1⟩ := bind_e h1
  refine sC cal49 (d_ref04_SameInts_c e14) ?_
  refine tr tbk 3 (.mk ?_)
  exact lf h1 () leA
  rintro y0_1 _ h0
  obtain rfl := nxt_e h0
  refine wR hret (rT .nil) ?_
  exact .refl _
def d_ref05_Check_L0 (a1 : GOp) (x3 : (List UInt8)) : Nat → Int → GOp → Option ((GOp) ⊕ (Bool))
  | 0, _, _ => none
  | n + 1, y0_1, y0_2 =>
    bnd (decide (y0_1 < (x3.length : Int))) fun x6 =>
    cond x6 ((ix x3 y0_1).bind fun x7 =>
    (d_ref05_part n a1 y0_2 (x7.toNat : Int)).bind fun x8 =>
    bnd x8.2 fun x10 =>
    bnd (!x10) fun x11 =>
    cond x11 (esc (some ((false : Bool)))) (bnd (w64 (y0_1 + 1)) fun x12 =>
    d_ref05_Check_L0 a1 x3 n (x12 : Int) (x8.1 : GOp))) (brk (y0_2 : GOp))
def d_ref05_Check (n : Nat) (a1 : GOp) : Option (Bool) :=
(d_ref05_has a1.Kind).bind fun x3 =>
(show Option ((GOp) ⊕ (Bool)) from
d_ref05_Check_L0 a1 x3 n (0 : Int) ((⟨a1.Kind, 0, 0, 0, 0, 0, 0, 0, []⟩ : GOp) : GOp)).bind <| sel <| fun y1_1 =>
(show Option (Bool) from
bnd (decide (x3 ≠ ([] : List UInt8))) fun x15 =>
cond x15 ((d_ref05_same n a1 y1_1).bind fun x16 =>
some (x16 : Bool)) (some (false : Bool))).bind <| fun y2_1 =>
some ((y2_1 : Bool))
theorem d_ref05_Check_c {n : Nat} {a1 : GOp} {r : Bool} (h0 : d_ref05_Check n a1 = some r) : PP Try.prog 9 [.agg (GOp.av a1)] (fun y => y = boo r) := by
  unfold d_ref05_Check at h0
  refine pp_of_pc (R0 := fun y H => Cv (frzH H) y (boo r)) ?_ (fun y H hc => ⟨_, rfl, pvB r, hc⟩)
  refine pcw (c := _) Try.func9 rfl rfl ?_; intro Q hret hnorm
  refine tc tbk 2 (.mk ?_)
  refine sB 1 fun v2 => ?_
  refine tr tbk 6 (.mk ?_)
  obtain ⟨x3, e3, h0⟩ := bind_e h0
  refine sC cal25 (d_ref05_has_c e3) ?_
  refine tr tbk 6 (.mk ?_)
  refine sY (yv_build (cs := [int a1.Kind, int 0, int 0, int 0, int 0, int 0, int 0, int 0, .sc (.slice none 0 0)]) (ps := [(0, _)]) rfl pl28 z28 rfl (.cons rfl .nil) (by kernel_rfl)) ?_
  refine sA 2 z28 fun v4 => ?_
  refine sS ⟨28, 9, true, true, v4, [[int a1.Kind, int 0, int 0, int 0, int 0, int 0, int 0, int 0, .sc (.slice none 0 0)]]⟩ sh28 ?_
  refine tr tbk 6 (.mk ?_)
  refine jnE h0 [1, 2, 3, 4] [1] (fun (a : GOp) (k : Unit) => []) (fun a k => [(2, ⟨28, 9, true, true, v4, [[int a.Kind, int a.E, int a.Item, int a.Loc, int a.To, int a.Qty, int a.Amount, int a.Ref, lst 1 fI a.Refs]]⟩)]) ⟨fun j5 h1 h0 => ?_, ?_⟩
  refine tc tbk 1 (.mk ?_)
  refine lp (fun n (a : Int × GOp) => d_ref05_Check_L0 a1 x3 n a.1 a.2) ((0 : Int), ((⟨a1.Kind, 0, 0, 0, 0, 0, 0, 0, []⟩ : GOp) : GOp)) () h1 [1, 2, 3, 4] [1] (fun (a : Int × GOp) (k : Unit) => [(5, int a.1)]) (fun a k => [(2, ⟨28, 9, true, true, v4, [[int a.2.Kind, int a.2.E, int a.2.Item, int a.2.Loc, int a.2.To, int a.2.Qty, int a.2.Amount, int a.2.Ref, lst 1 fI a.2.Refs]]⟩)]) (fun _ => rfl) ⟨leH_kn ⟨⟨_, rfl, (.refl _)⟩, ⟨_, rfl, (.refl _)⟩, ⟨_, rfl, (.refl _)⟩, ⟨_, rfl, (.refl _)⟩, ⟨_, rfl, (.refl _)⟩, trivial⟩ ⟨⟨_, rfl, ⟨rfl, (.cons (.cons (.refl _) (.cons (.refl _) (.cons (.refl _) (.cons (.refl _) (.cons (.refl _) (.cons (.refl _) (.cons (.refl _) (.cons (.refl _) (.cons (.nil _) .nil))))))))) .nil)⟩⟩, ⟨_, rfl, (.refl _)⟩, trivial⟩, ?_⟩
  rintro n ⟨y0_1, y0_2⟩ _ hm h1
  replace h1 : d_ref05_Check_L0 a1 x3 (n + 1) y0_1 y0_2 = some _ := h1
  rw [d_ref05_Check_L0] at h1
  refine tc tbk 5 (.mk ?_)
  refine sY (yv_len_str rfl Try.underlying9 rfl) ?_
  refine nb tbk h1 fun x6 h1 => ?_
  refine tr tbk 1 (.mk ?_)
  cases x6
  replace h1 := cf h1
  refine tc tbk 2 (.mk ?_)
  exact lfE h1 () leA
  replace h1 := ct h1
  refine tc tbk 5 (.mk ?_)
  refine c_drawE [0, 0, 0, 0, 12, 31, 63, 127, 127, 0, 767, 2047] (rl [(0, [1]), (1, [2])] []) (rl [(10, [])] [1, 2]) (rl [(9, false), (10, false)] true) [0, 1, 2, 3, 4, 5, 6, 7, 8, 9, 10, 11] mixed (by kernel_rfl) ?_; intro K hK
  refine eL sh28 ?_
  refine eL sh28 ?_
  iterate 2 refine eM ?_
  obtain ⟨x7, e7, h1⟩ := bind_e h1
  refine eP (fun H hH => yv_index_str rfl Try.underlying9 rfl rfl (ix_e e7).1 (ix_e e7).2) ?_
  obtain ⟨x8, e8, h1⟩ := bind_e h1
  refine eP (fun H hH => yv_callP rfl rfl (.cons rfl (.cons rfl (.cons rfl .nil))) cal26 (CvL.refl _) (d_ref05_part_c e8)) ?_
  refine eM ?_
  iterate 2 refine eX ?_
  refine de_eff rfl rfl rfl rfl (yl_alloc 3 .any rfl z28 rfl) (by rintro _ _ ⟨v9, -, rfl, rfl⟩; exact ⟨rfl, rfl, trivial⟩) ?_; rintro _ _ ⟨v9, -, rfl, rfl⟩
  refine de_eff0 rfl rfl rfl rfl (Yield.weak (yl_ob (ob' := (⟨28, 9, true, true, v9, [[int x8.1.Kind, int x8.1.E, int x8.1.Item, int x8.1.Loc, int x8.1.To, int x8.1.Qty, int x8.1.Amount, int x8.1.Ref, lst 1 fI x8.1.Refs]]⟩ : AObj)) (yl_store rfl sh28 rfl rfl rfl rfl rfl rfl rfl rfl rfl) rfl) (fun _ h => h) (fun _ _ => trivial)) (by rintro _ _ ⟨rfl, rfl⟩; exact trivial) ?_; rintro _ _ ⟨rfl, rfl⟩
  obtain ⟨x10, e10, h1⟩ := bnd_e h1
  refine eP (fun H hH => yv_to (y := boo x10) (yv_assign rfl rfl) (congrArg boo e10)) ?_
  refine de_nil (hK _ ?_)
  refine tc tbk 4 (.mk ?_)
  refine nb tbk h1 fun x11 h1 => ?_
  refine tr tbk 1 (.mk ?_)
  cases x11
  replace h1 := cf h1
  refine tc tbk 4 (.mk ?_)
  refine sS ⟨28, 9, true, true, v4, [[int x8.1.Kind, int x8.1.E, int x8.1.Item, int x8.1.Loc, int x8.1.To, int x8.1.Qty, int x8.1.Amount, int x8.1.Ref, lst 1 fI x8.1.Refs]]⟩ sh28 ?_
  refine tr tbk 4 (.mk ?_)
  refine ni tbk h1 fun x12 h1 => ?_
  refine tr tbk 2 (.mk ?_)
  exact bk (x12, x8.1) () h1 leA
  replace h1 := ct h1
  refine tc tbk 5 (.mk ?_)
  obtain ⟨c13, hX, hj⟩ := esc_e h1; subst hj; replace h0 := hX.trans (sel_r h0)
  obtain rfl := nxt_e h0
  refine wR hret (rT .nil) ?_
  exact .refl _
  rintro y1_1 _ h0
  refine tc tbk 1 (.mk ?_)
  refine jn h0 [] [] (fun (a : Bool) (k : Unit) => [(2, boo a)]) (fun a k => []) ⟨fun j14 h1 => ?_, ?_⟩
  refine tc tbk 2 (.mk ?_)
  obtain ⟨x15, e15, h1⟩ := bnd_e h1
  refine sY (yv_to (y := boo x15) (yv_sneq rfl rfl rfl) (congrArg boo e15)) ?_
  refine tr tbk 1 (.mk ?_)
  cases x15
  replace h1 := cf h1
  refine tr tbk 6 (.mk ?_)
  exact lf h1 () leA
  replace h1 := ct h1
  refine tr tbk 2 (.mk ?_)
  obtain ⟨x16, e16, h1⟩ := bind_e h1
  refine sC cal27 (d_ref05_same_c e16) ?_
  refine tr tbk 3 (.mk ?_)
  exact lf h1 () leA
  rintro y2_1 _ h0
  obtain rfl := nxt_e h0
  refine wR hret (rT .nil) ?_
  exact .refl _
def d_ref05_Same_L0 (a1 : List GOp) (a2 : List GOp) : Nat → Int → Option ((Unit) ⊕ (Bool))
  | 0, _ => none
  | n + 1, y0_1 =>
    bnd (decide (y0_1 < (a1.length : Int))) fun x5 =>
    cond x5 ((ix a1 y0_1).bind fun x6 =>
    (ix a2 y0_1).bind fun x7 =>
    (d_ref05_same n x6 x7).bind fun x8 =>
    bnd (!x8) fun x9 =>
    cond x9 (esc (some ((false : Bool)))) (bnd (w64 (y0_1 + 1)) fun x10 =>
    d_ref05_Same_L0 a1 a2 n (x10 : Int))) (brk ())
def d_ref05_Same (n : Nat) (a1 : List GOp) (a2 : List GOp) : Option (Bool) :=
bnd (decide ((a1.length : Int) ≠ (a2.length : Int))) fun x3 =>
cond x3 (some ((false : Bool))) ((show Option ((Unit) ⊕ (Bool)) from
d_ref05_Same_L0 a1 a2 n (0 : Int)).bind <| sel <| fun _ =>
some ((true : Bool)))
theorem d_ref05_Same_c {n : Nat} {a1 : List GOp} {a2 : List GOp} {r : Bool} (h0 : d_ref05_Same n a1 a2 = some r) : PP Try.prog 13 [lst 9 GOp.av a1, lst 9 GOp.av a2] (fun y => y = boo r) := by
  unfold d_ref05_Same at h0
  refine pp_of_pc (R0 := fun y H => Cv (frzH H) y (boo r)) ?_ (fun y H hc => ⟨_, rfl, pvB r, hc⟩)
  refine pcw (c := _) Try.func13 rfl rfl ?_; intro Q hret hnorm
  refine tc tbk 8 (.mk ?_)
  refine sY (yv_len_sl rfl Try.underlying22 rfl (lst_len _)) ?_
  refine tr tbk 1 (.mk ?_)
  refine sY (yv_len_sl rfl Try.underlying22 rfl (lst_len _)) ?_
  refine nb tbk h0 fun x3 h0 => ?_
  refine tr tbk 1 (.mk ?_)
  cases x3
  replace h0 := cf h0
  refine tc tbk 7 (.mk ?_)
  refine jnE h0 [4] [] (fun (a : Unit) (k : Unit) => []) (fun a k => []) ⟨fun j4 h1 h0 => ?_, ?_⟩
  refine tc tbk 1 (.mk ?_)
  refine lp (fun n (a : Int) => d_ref05_Same_L0 a1 a2 n a) (0 : Int) () h1 [0, 1, 4] [] (fun (a : Int) (k : Unit) => [(5, int a)]) (fun a k => []) (fun _ => rfl) ⟨leA, ?_⟩
  rintro n y0_1 _ hm h1
  replace h1 : d_ref05_Same_L0 a1 a2 (n + 1) y0_1 = some _ := h1
  rw [d_ref05_Same_L0] at h1
  refine tc tbk 5 (.mk ?_)
  refine sY (yv_len_sl rfl Try.underlying22 rfl (lst_len _)) ?_
  refine nb tbk h1 fun x5 h1 => ?_
  refine tr tbk 1 (.mk ?_)
  cases x5
  replace h1 := cf h1
  refine tc tbk 2 (.mk ?_)
  exact lfE h1 () leA
  replace h1 := ct h1
  refine tc tbk 5 (.mk ?_)
  refine c_drawE [0, 0, 3, 7, 0, 0, 48, 112, 255, 511] (fun i => []) (fun i => []) (fun i => true) [0, 1, 2, 3, 4, 5, 6, 7, 8, 9] mixed (by kernel_rfl) ?_; intro K hK
  iterate 2 refine eM ?_
  obtain ⟨x6, e6, h1⟩ := bind_e h1
  refine eP (fun H hH => yv_ixT rfl Try.underlying22 sh28 rfl rfl e6) ?_
  refine eP (fun H hH => yv_load rfl sh28 rfl (.pp _) rfl) ?_
  iterate 2 refine eM ?_
  obtain ⟨x7, e7, h1⟩ := bind_e h1
  refine eP (fun H hH => yv_ixT rfl Try.underlying22 sh28 rfl rfl e7) ?_
  refine eP (fun H hH => yv_load rfl sh28 rfl (.pp _) rfl) ?_
  obtain ⟨x8, e8, h1⟩ := bind_e h1
  refine eP (fun H hH => yv_callP rfl rfl (.cons rfl (.cons rfl .nil)) cal27 (CvL.refl _) (d_ref05_same_c e8)) ?_
  obtain ⟨x9, e9, h1⟩ := bnd_e h1
  refine eP (fun H hH => yv_not rfl rfl e9) ?_
  refine de_nil (hK _ ?_)
  cases x9
  replace h1 := cf h1
  refine tc tbk 5 (.mk ?_)
  refine ni tbk h1 fun x10 h1 => ?_
  refine tr tbk 2 (.mk ?_)
  exact bk x10 () h1 leA
  replace h1 := ct h1
  refine tc tbk 5 (.mk ?_)
  obtain ⟨c11, hX, hj⟩ := esc_e h1; subst hj; replace h0 := hX.trans (sel_r h0)
  obtain rfl := nxt_e h0
  refine wR hret (rT .nil) ?_
  exact .refl _
  rintro _ _ h0
  refine tc tbk 4 (.mk ?_)
  obtain rfl := nxt_e h0
  refine wR hret (rT .nil) ?_
  exact .refl _
  replace h0 := ct h0
  refine tc tbk 5 (.mk ?_)
  obtain rfl := nxt_e h0
  refine wR hret (rT .nil) ?_
  exact .refl _
def d_ref05_value (a1 : GOp) (a2 : Int) : Option (Int) :=
bnd (decide (a2 = 101)) fun x4 =>
cond x4 (some ((a1.E : Int))) (bnd (decide (a2 = 105)) fun x5 =>
cond x5 (some ((a1.Item : Int))) (bnd (decide (a2 = 108)) fun x6 =>
cond x6 (some ((a1.Loc : Int))) (bnd (decide (a2 = 116)) fun x7 =>
cond x7 (some ((a1.To : Int))) (bnd (decide (a2 = 113)) fun x8 =>
cond x8 (some ((a1.Qty : Int))) (bnd (decide (a2 = 97)) fun x9 =>
cond x9 (some ((a1.Amount : Int))) (some ((a1.Ref : Int))))))))
theorem d_ref05_value_c {a1 : GOp} {a2 : Int} {r : Int} (h0 : d_ref05_value a1 a2 = some r) : PP Try.prog 45 [.agg (GOp.av a1), .sc (.int .u8 a2)] (fun y => y = int r) := by
  unfold d_ref05_value at h0
  refine pp_of_pc (R0 := fun y H => Cv (frzH H) y (int r)) ?_ (fun y H hc => ⟨_, rfl, pvI r, hc⟩)
  refine pcw (c := _) Try.func45 rfl rfl ?_; intro Q hret hnorm
  refine tc tbk 2 (.mk ?_)
  refine sB 1 fun v3 => ?_
  refine tr tbk 10 (.mk ?_)
  refine nb tbk h0 fun x4 h0 => ?_
  refine tr tbk 2 (.mk ?_)
  cases x4
  replace h0 := cf h0
  refine tc tbk 3 (.mk ?_)
  refine nb tbk h0 fun x5 h0 => ?_
  refine tr tbk 2 (.mk ?_)
  cases x5
  replace h0 := cf h0
  refine tc tbk 3 (.mk ?_)
  refine nb tbk h0 fun x6 h0 => ?_
  refine tr tbk 2 (.mk ?_)
  cases x6
  replace h0 := cf h0
  refine tc tbk 3 (.mk ?_)
  refine nb tbk h0 fun x7 h0 => ?_
  refine tr tbk 2 (.mk ?_)
  cases x7
  replace h0 := cf h0
  refine tc tbk 3 (.mk ?_)
  refine nb tbk h0 fun x8 h0 => ?_
  refine tr tbk 2 (.mk ?_)
  cases x8
  replace h0 := cf h0
  refine tc tbk 3 (.mk ?_)
  refine nb tbk h0 fun x9 h0 => ?_
  refine tr tbk 2 (.mk ?_)
  cases x9
  replace h0 := cf h0
  refine tc tbk 9 (.mk ?_)
  obtain rfl := nxt_e h0
  refine wR hret (rT .nil) ?_
  exact .refl _
  replace h0 := ct h0
  refine tc tbk 7 (.mk ?_)
  obtain rfl := nxt_e h0
  refine wR hret (rT .nil) ?_
  exact .refl _
  replace h0 := ct h0
  refine tc tbk 7 (.mk ?_)
  obtain rfl := nxt_e h0
  refine wR hret (rT .nil) ?_
  exact .refl _
  replace h0 := ct h0
  refine tc tbk 7 (.mk ?_)
  obtain rfl := nxt_e h0
  refine wR hret (rT .nil) ?_
  exact .refl _
  replace h0 := ct h0
  refine tc tbk 7 (.mk ?_)
  obtain rfl := nxt_e h0
  refine wR hret (rT .nil) ?_
  exact .refl _
  replace h0 := ct h0
  refine tc tbk 7 (.mk ?_)
  obtain rfl := nxt_e h0
  refine wR hret (rT .nil) ?_
  exact .refl _
  replace h0 := ct h0
  refine tc tbk 7 (.mk ?_)
  obtain rfl := nxt_e h0
  refine wR hret (rT .nil) ?_
  exact .refl _
def d_ref03_List_L0 (a1 : List Int) : Nat → (List UInt8) → Int → Option ((List UInt8))
  | 0, _, _ => none
  | n + 1, y0_1, y0_2 =>
    bnd (decide (y0_2 < (a1.length : Int))) fun x4 =>
    cond x4 ((ix a1 y0_2).bind fun x5 =>
    (numRD x5).bind fun x6 =>
    asrt (y0_1.length + x6.length ≤ 9223372036854775807) <|
    bnd (y0_1 ++ x6) fun x8 =>
    bnd (w64 (y0_2 + 1)) fun x9 =>
    d_ref03_List_L0 a1 n (x8 : List UInt8) (x9 : Int)) (some (y0_1 : List UInt8))
def d_ref03_List (n : Nat) (a1 : List Int) : Option ((List UInt8)) :=
(numRD (a1.length : Int)).bind fun x2 =>
(show Option ((List UInt8)) from
d_ref03_List_L0 a1 n (x2 : List UInt8) (0 : Int)).bind <| fun y1_1 =>
some ((y1_1 : List UInt8))
theorem d_ref03_List_c {n : Nat} {a1 : List Int} {r : (List UInt8)} (h0 : d_ref03_List n a1 = some r) : PP Try.prog 44 [lst 1 fI a1] (fun y => y = str r) := by
  unfold d_ref03_List at h0
  refine pp_of_pc (R0 := fun y H => Cv (frzH H) y (str r)) ?_ (fun y H hc => ⟨_, rfl, pvS r, hc⟩)
  refine pcw (c := _) Try.func44 rfl rfl ?_; intro Q hret hnorm
  refine tc tbk 7 (.mk ?_)
  refine sY (yv_len_sl rfl Try.underlying26 rfl (lst_len _)) ?_
  obtain ⟨x2, e2, h0⟩ := bind_e h0
  refine sC cal43 (numRD_c e2) ?_
  refine tr tbk 7 (.mk ?_)
  refine jn h0 [2] [] (fun (a : (List UInt8)) (k : Unit) => [(3, str a)]) (fun a k => []) ⟨fun j3 h1 => ?_, ?_⟩
  refine tc tbk 1 (.mk ?_)
  refine lp (fun n (a : (List UInt8) × Int) => d_ref03_List_L0 a1 n a.1 a.2) ((x2 : List UInt8), (0 : Int)) () h1 [0, 2] [] (fun (a : (List UInt8) × Int) (k : Unit) => [(3, str a.1), (4, int a.2)]) (fun a k => []) (fun _ => rfl) ⟨leA, ?_⟩
  rintro n ⟨y0_1, y0_2⟩ _ hm h1
  replace h1 : d_ref03_List_L0 a1 (n + 1) y0_1 y0_2 = some _ := h1
  rw [d_ref03_List_L0] at h1
  refine tc tbk 5 (.mk ?_)
  refine sY (yv_len_sl rfl Try.underlying26 rfl (lst_len _)) ?_
  refine nb tbk h1 fun x4 h1 => ?_
  refine tr tbk 1 (.mk ?_)
  cases x4
  replace h1 := cf h1
  refine tc tbk 2 (.mk ?_)
  exact lf h1 () leA
  replace h1 := ct h1
  refine tc tbk 8 (.mk ?_)
  obtain ⟨x5, e5, h1⟩ := bind_e h1
  refine sY (yv_ixT rfl Try.underlying26 sh3 rfl rfl e5) ?_
  refine tr tbk 1 (.mk ?_)
  obtain ⟨x6, e6, h1⟩ := bind_e h1
  refine sC cal43 (numRD_c e6) ?_
  obtain ⟨p7, h1⟩ := asrt_e h1
  obtain ⟨x8, e8, h1⟩ := bnd_e h1
  refine sY (yv_to (y := str x8) (yv_sadd rfl rfl rfl p7) (congrArg str e8)) ?_
  refine tr tbk 5 (.mk ?_)
  refine ni tbk h1 fun x9 h1 => ?_
  refine tr tbk 2 (.mk ?_)
  exact bk (x8, x9) () h1 leA
  rintro y1_1 _ h0
  refine tc tbk 5 (.mk ?_)
  obtain rfl := nxt_e h0
  refine wR hret (rT .nil) ?_
  exact .refl _
def d_ref05_Bytes_L1 (a1 : List GOp) (y0_2 : Int) (x11 : (List UInt8)) : Nat → (List UInt8) → Int → Option ((List UInt8))
  | 0, _, _ => none
  | n + 1, y1_1, y1_2 =>
    bnd (decide (y1_2 < (x11.length : Int))) fun x17 =>
    cond x17 ((show Option ((List UInt8)) from
    (ix x11 y1_2).bind fun x19 =>
    bnd (decide ((x19.toNat : Int) = 115)) fun x20 =>
    cond x20 ((ix a1 y0_2).bind fun x27 =>
    (d_ref03_List n x27.Refs).bind fun x28 =>
    asrt (y1_1.length + x28.length ≤ 9223372036854775807) <|
    bnd (y1_1 ++ x28) fun x30 =>
    some (x30 : List UInt8)) ((ix a1 y0_2).bind fun x21 =>
    (ix x11 y1_2).bind fun x22 =>
    (d_ref05_value x21 (x22.toNat : Int)).bind fun x23 =>
    (numRD x23).bind fun x24 =>
    asrt (y1_1.length + x24.length ≤ 9223372036854775807) <|
    bnd (y1_1 ++ x24) fun x26 =>
    some (x26 : List UInt8))).bind <| fun y2_1 =>
    bnd (w64 (y1_2 + 1)) fun x31 =>
    d_ref05_Bytes_L1 a1 y0_2 x11 n (y2_1 : List UInt8) (x31 : Int)) (some (y1_1 : List UInt8))
def d_ref05_Bytes_L0 (a1 : List GOp) : Nat → (List UInt8) → Int → Option (((List UInt8)) ⊕ ((List UInt8)))
  | 0, _, _ => none
  | n + 1, y0_1, y0_2 =>
    bnd (decide (y0_2 < (a1.length : Int))) fun x5 =>
    cond x5 ((show Option (((List UInt8)) ⊕ (((List UInt8)) ⊕ ((List UInt8)))) from
    (ix a1 y0_2).bind fun x7 =>
    (d_ref05_Check n x7).bind fun x8 =>
    bnd (!x8) fun x9 =>
    cond x9 (esc (esc (some ((([] : List UInt8) : List UInt8))))) ((ix a1 y0_2).bind fun x10 =>
    (d_ref05_has x10.Kind).bind fun x11 =>
    (ix a1 y0_2).bind fun x12 =>
    (numRD x12.Kind).bind fun x13 =>
    asrt (y0_1.length + x13.length ≤ 9223372036854775807) <|
    bnd (y0_1 ++ x13) fun x15 =>
    (show Option ((List UInt8)) from
    d_ref05_Bytes_L1 a1 y0_2 x11 n (x15 : List UInt8) (0 : Int)).bind <| fun y3_1 =>
    brk (y3_1 : List UInt8))).bind <| sel <| fun y4_1 =>
    bnd (w64 (y0_2 + 1)) fun x34 =>
    d_ref05_Bytes_L0 a1 n (y4_1 : List UInt8) (x34 : Int)) (brk (y0_1 : List UInt8))
def d_ref05_Bytes (n : Nat) (a1 : List GOp) : Option ((List UInt8)) :=
bnd (decide ((a1.length : Int) > 400)) fun x2 =>
asrt (x2 = false) <|
(numRD (a1.length : Int)).bind fun x3 =>
(show Option (((List UInt8)) ⊕ ((List UInt8))) from
d_ref05_Bytes_L0 a1 n (x3 : List UInt8) (0 : Int)).bind <| sel <| fun y5_1 =>
some ((y5_1 : List UInt8))
theorem d_ref05_Bytes_c {n : Nat} {a1 : List GOp} {r : (List UInt8)} (h0 : d_ref05_Bytes n a1 = some r) : PP Try.prog 15 [lst 9 GOp.av a1] (fun y => y = str r) := by
  unfold d_ref05_Bytes at h0
  refine pp_of_pc (R0 := fun y H => Cv (frzH H) y (str r)) ?_ (fun y H hc => ⟨_, rfl, pvS r, hc⟩)
  refine pcw (c := _) Try.func15 rfl rfl ?_; intro Q hret hnorm
  refine tc tbk 8 (.mk ?_)
  refine sY (yv_len_sl rfl Try.underlying22 rfl (lst_len _)) ?_
  refine nb tbk h0 fun x2 h0 => ?_
  refine tr tbk 1 (.mk ?_)
  replace h0 := asrt_e h0
  obtain ⟨rfl, h0⟩ := h0
  refine tc tbk 5 (.mk ?_)
  refine sY (yv_len_sl rfl Try.underlying22 rfl (lst_len _)) ?_
  obtain ⟨x3, e3, h0⟩ := bind_e h0
  refine sC cal43 (numRD_c e3) ?_
  refine tr tbk 7 (.mk ?_)
  refine jnE h0 [2] [] (fun (a : (List UInt8)) (k : Unit) => [(3, str a)]) (fun a k => []) ⟨fun j4 h1 h0 => ?_, ?_⟩
  refine tc tbk 1 (.mk ?_)
  refine lp (fun n (a : (List UInt8) × Int) => d_ref05_Bytes_L0 a1 n a.1 a.2) ((x3 : List UInt8), (0 : Int)) () h1 [0, 2] [] (fun (a : (List UInt8) × Int) (k : Unit) => [(3, str a.1), (4, int a.2)]) (fun a k => []) (fun _ => rfl) ⟨leA, ?_⟩
  rintro n ⟨y0_1, y0_2⟩ _ hm h1
  replace h1 : d_ref05_Bytes_L0 a1 (n + 1) y0_1 y0_2 = some _ := h1
  rw [d_ref05_Bytes_L0] at h1
  refine tc tbk 5 (.mk ?_)
  refine sY (yv_len_sl rfl Try.underlying22 rfl (lst_len _)) ?_
  refine nb tbk h1 fun x5 h1 => ?_
  refine tr tbk 1 (.mk ?_)
  cases x5
  replace h1 := cf h1
  refine tc tbk 2 (.mk ?_)
  exact lfE h1 () leA
  replace h1 := ct h1
  refine tc tbk 3 (.mk ?_)
  refine jnE h1 [0, 2, 4] [] (fun (a : (List UInt8)) (k : Unit) => [(3, str a)]) (fun a k => []) ⟨fun j6 h2 h1 => ?_, ?_⟩
  refine tc tbk 6 (.mk ?_)
  obtain ⟨x7, e7, h2⟩ := bind_e h2
  refine sY (yv_ixT rfl Try.underlying22 sh28 rfl rfl e7) ?_
  refine tr tbk 1 (.mk ?_)
  obtain ⟨x8, e8, h2⟩ := bind_e h2
  refine sC cal9 (d_ref05_Check_c e8) ?_
  refine nb tbk h2 fun x9 h2 => ?_
  refine tr tbk 1 (.mk ?_)
  cases x9
  replace h2 := cf h2
  refine tc tbk 6 (.mk ?_)
  obtain ⟨x10, e10, h2⟩ := bind_e h2
  refine sY (yv_ixT rfl Try.underlying22 sh28 rfl rfl e10) ?_
  refine tr tbk 2 (.mk ?_)
  obtain ⟨x11, e11, h2⟩ := bind_e h2
  refine sC cal25 (d_ref05_has_c e11) ?_
  refine tr tbk 7 (.mk ?_)
  obtain ⟨x12, e12, h2⟩ := bind_e h2
  refine sY (yv_ixT rfl Try.underlying22 sh28 rfl rfl e12) ?_
  refine tr tbk 2 (.mk ?_)
  obtain ⟨x13, e13, h2⟩ := bind_e h2
  refine sC cal43 (numRD_c e13) ?_
  obtain ⟨p14, h2⟩ := asrt_e h2
  obtain ⟨x15, e15, h2⟩ := bnd_e h2
  refine sY (yv_to (y := str x15) (yv_sadd rfl rfl rfl p14) (congrArg str e15)) ?_
  refine tr tbk 6 (.mk ?_)
  refine jn h2 [0, 2, 4] [] (fun (a : (List UInt8)) (k : Unit) => [(3, str a)]) (fun a k => []) ⟨fun j16 h3 => ?_, ?_⟩
  refine tc tbk 1 (.mk ?_)
  refine lp (fun n (a : (List UInt8) × Int) => d_ref05_Bytes_L1 a1 y0_2 x11 n a.1 a.2) ((x15 : List UInt8), (0 : Int)) () h3 [0, 2, 4, 5] [] (fun (a : (List UInt8) × Int) (k : Unit) => [(3, str a.1), (6, int a.2)]) (fun a k => []) (fun _ => rfl) ⟨leA, ?_⟩
  rintro n ⟨y1_1, y1_2⟩ _ hm h3
  replace h3 : d_ref05_Bytes_L1 a1 y0_2 x11 (n + 1) y1_1 y1_2 = some _ := h3
  rw [d_ref05_Bytes_L1] at h3
  refine tc tbk 5 (.mk ?_)
  refine sY (yv_len_str rfl Try.underlying9 rfl) ?_
  refine nb tbk h3 fun x17 h3 => ?_
  refine tr tbk 1 (.mk ?_)
  cases x17
  replace h3 := cf h3
  refine tc tbk 2 (.mk ?_)
  exact lf h3 () leA
  replace h3 := ct h3
  refine tc tbk 3 (.mk ?_)
  refine jn h3 [0, 2, 4, 5, 6] [] (fun (a : (List UInt8)) (k : Unit) => [(3, str a)]) (fun a k => []) ⟨fun j18 h4 => ?_, ?_⟩
  refine tc tbk 5 (.mk ?_)
  obtain ⟨x19, e19, h4⟩ := bind_e h4
  refine sY (yv_index_str rfl Try.underlying9 rfl rfl (ix_e e19).1 (ix_e e19).2) ?_
  refine nb tbk h4 fun x20 h4 => ?_
  refine tr tbk 1 (.mk ?_)
  cases x20
  replace h4 := cf h4
  refine tc tbk 1 (.mk ?_)
  refine c_drawE [0, 0, 0, 6, 14, 0, 0, 96, 254, 510, 1023, 2047] (fun i => []) (fun i => []) (fun i => true) [0, 1, 2, 3, 4, 5, 6, 7, 8, 9, 10, 11] mixed (by kernel_rfl) ?_; intro K hK
  iterate 3 refine eM ?_
  obtain ⟨x21, e21, h4⟩ := bind_e h4
  refine eP (fun H hH => yv_ixT rfl Try.underlying22 sh28 rfl rfl e21) ?_
  refine eP (fun H hH => yv_load rfl sh28 rfl (.pp _) rfl) ?_
  iterate 2 refine eM ?_
  obtain ⟨x22, e22, h4⟩ := bind_e h4
  refine eP (fun H hH => yv_index_str rfl Try.underlying9 rfl rfl (ix_e e22).1 (ix_e e22).2) ?_
  obtain ⟨x23, e23, h4⟩ := bind_e h4
  refine eP (fun H hH => yv_callP rfl rfl (.cons rfl (.cons rfl .nil)) cal45 (CvL.refl _) (d_ref05_value_c e23)) ?_
  obtain ⟨x24, e24, h4⟩ := bind_e h4
  refine eP (fun H hH => yv_callP rfl rfl (.cons rfl .nil) cal43 (CvL.refl _) (numRD_c e24)) ?_
  obtain ⟨p25, h4⟩ := asrt_e h4
  obtain ⟨x26, e26, h4⟩ := bnd_e h4
  refine eP (fun H hH => yv_to (y := str x26) (yv_sadd rfl rfl rfl p25) (congrArg str e26)) ?_
  refine eA ?_
  refine de_nil (hK _ ?_)
  refine tc tbk 1 (.mk ?_)
  exact lf h4 () leA
  replace h4 := ct h4
  refine tc tbk 5 (.mk ?_)
  obtain ⟨x27, e27, h4⟩ := bind_e h4
  refine sY (yv_ixT rfl Try.underlying22 sh28 rfl rfl e27) ?_
  refine tr tbk 2 (.mk ?_)
  obtain ⟨x28, e28, h4⟩ := bind_e h4
  refine sC cal44 (d_ref03_List_c e28) ?_
  obtain ⟨p29, h4⟩ := asrt_e h4
  obtain ⟨x30, e30, h4⟩ := bnd_e h4
  refine sY (yv_to (y := str x30) (yv_sadd rfl rfl rfl p29) (congrArg str e30)) ?_
  refine tr tbk 3 (.mk ?_)
  exact lf h4 () leA
  rintro y2_1 _ h3
  refine tc tbk 2 (.mk ?_)
  refine ni tbk h3 fun x31 h3 => ?_
  refine tr tbk 2 (.mk ?_)
  exact bk (y2_1, x31) () h3 leA
  rintro y3_1 _ h2
  refine tc tbk 1 (.mk ?_)
  exact lfE h2 () leA
  replace h2 := ct h2
  refine tc tbk 5 (.mk ?_)
  obtain ⟨c32, hX, hj⟩ := esc_e h2; subst hj; replace h1 := hX.trans (sel_r h1)
  obtain ⟨c33, hX, hj⟩ := esc_e h1; subst hj; replace h0 := hX.trans (sel_r h0)
  obtain rfl := nxt_e h0
  refine wR hret (rT .nil) ?_
  exact .refl _
  rintro y4_1 _ h1
  refine tc tbk 2 (.mk ?_)
  refine ni tbk h1 fun x34 h1 => ?_
  refine tr tbk 2 (.mk ?_)
  exact bk (y4_1, x34) () h1 leA
  rintro y5_1 _ h0
  refine tc tbk 5 (.mk ?_)
  obtain rfl := nxt_e h0
  refine wR hret (rT .nil) ?_
  exact .refl _
def d_law00_Place (a1 : Int) (a2 : Int) : Option (Int) :=
asrt (a2 ≠ 0) <|
bnd (a1.tmod a2) fun x4 =>
bnd (decide (x4 < 0)) fun x5 =>
(show Option (Int) from
cond x5 (bnd (w64 (x4 + a2)) fun x7 =>
some (x7 : Int)) (some (x4 : Int))).bind <| fun y0_1 =>
some ((y0_1 : Int))
theorem d_law00_Place_c {a1 : Int} {a2 : Int} {r : Int} (h0 : d_law00_Place a1 a2 = some r) : PP Try.prog 19 [int a1, int a2] (fun y => y = int r) := by
  unfold d_law00_Place at h0
  refine pp_of_pc (R0 := fun y H => Cv (frzH H) y (int r)) ?_ (fun y H hc => ⟨_, rfl, pvI r, hc⟩)
  refine pcw (c := _) Try.func19 rfl rfl ?_; intro Q hret hnorm
  refine tc tbk 8 (.mk ?_)
  obtain ⟨p3, h0⟩ := asrt_e h0
  obtain ⟨x4, e4, h0⟩ := bnd_e h0
  refine sY (yv_rem rfl rfl rfl p3 e4) ?_
  refine tr tbk 6 (.mk ?_)
  refine nb tbk h0 fun x5 h0 => ?_
  refine tr tbk 1 (.mk ?_)
  refine jn h0 [4] [] (fun (a : Int) (k : Unit) => [(5, int a)]) (fun a k => []) ⟨fun j6 h1 => ?_, ?_⟩
  cases x5
  replace h1 := cf h1
  refine tc tbk 2 (.mk ?_)
  exact lf h1 () leA
  replace h1 := ct h1
  refine tc tbk 4 (.mk ?_)
  refine ni tbk h1 fun x7 h1 => ?_
  refine tr tbk 2 (.mk ?_)
  exact lf h1 () leA
  rintro y0_1 _ h0
  refine tc tbk 5 (.mk ?_)
  obtain rfl := nxt_e h0
  refine wR hret (rT .nil) ?_
  exact .refl _
def d_law00_Master_L0 (x3 : Int) (x8 : Int) : Nat → Int → (List Int) → Option ((List Int))
  | 0, _, _ => none
  | n + 1, y0_1, y0_3 =>
    bnd (decide (y0_1 < x8)) fun x15 =>
    cond x15 (bnd (w64 (x3.tdiv 24)) fun x16 =>
    bnd (x16.tmod 7) fun x17 =>
    bnd (w64 (x17 + y0_1)) fun x18 =>
    bnd (y0_3 ++ ([x18] : List Int)) fun x19 =>
    asrt (x19.length ≤ 68719476736) <|
    bnd (w64 (y0_1 + 1)) fun x22 =>
    d_law00_Master_L0 x3 x8 n (x22 : Int) (x19 : List Int)) (some (y0_3 : List Int))
def d_law00_Master_L2 (x3 : Int) (x8 : Int) (y2_1 : Int) : Nat → Int → (List Int) → (List Int) → Option ((List Int) × (List Int))
  | 0, _, _, _ => none
  | n + 1, y3_3, y3_4, y3_5 =>
    bnd (decide (y3_3 < x8)) fun x31 =>
    cond x31 (bnd (w64 (x3.tdiv 168)) fun x32 =>
    bnd (w64 (x32 + y3_3)) fun x33 =>
    bnd (w64 (x3.tdiv 672)) fun x34 =>
    bnd (x34.tmod 4) fun x35 =>
    bnd (w64 (y2_1 * x35)) fun x36 =>
    bnd (w64 (x33 + x36)) fun x37 =>
    bnd (x37.tmod 4) fun x38 =>
    bnd (w64 (1 + x38)) fun x39 =>
    bnd (y3_4 ++ ([x39] : List Int)) fun x40 =>
    asrt (x40.length ≤ 68719476736) <|
    bnd (w64 (x3.tdiv 2688)) fun x43 =>
    bnd (w64 (7 * y3_3)) fun x44 =>
    bnd (w64 (x43 + x44)) fun x45 =>
    bnd (w64 (x45 + y2_1)) fun x46 =>
    bnd (x46.tmod 40) fun x47 =>
    bnd (y3_5 ++ ([x47] : List Int)) fun x48 =>
    asrt (x48.length ≤ 68719476736) <|
    bnd (w64 (y3_3 + 1)) fun x51 =>
    d_law00_Master_L2 x3 x8 y2_1 n (x51 : Int) (x40 : List Int) (x48 : List Int)) (some ((y3_4 : List Int), (y3_5 : List Int)))
def d_law00_Master_L1 (x3 : Int) (x5 : Int) (x8 : Int) : Nat → Int → (List (List Int)) → (List (List Int)) → Option ((List (List Int)) × (List (List Int)))
  | 0, _, _, _ => none
  | n + 1, y2_1, y2_4, y2_5 =>
    bnd (decide (y2_1 < x5)) fun x26 =>
    cond x26 ((show Option ((List (List Int)) × (List (List Int))) from
    (show Option ((List Int) × (List Int)) from
    d_law00_Master_L2 x3 x8 y2_1 n (0 : Int) (([] : List Int) : List Int) (([] : List Int) : List Int)).bind <| p2 fun (y4_3 : List Int) (y4_4 : List Int) =>
    bnd (y2_4 ++ [y4_3]) fun x52 =>
    asrt (x52.length ≤ 68719476736) <|
    bnd (y2_5 ++ [y4_4]) fun x55 =>
    asrt (x55.length ≤ 68719476736) <|
    some ((x52 : List (List Int)), (x55 : List (List Int)))).bind <| p2 fun (y5_3 : List (List Int)) (y5_4 : List (List Int)) =>
    bnd (w64 (y2_1 + 1)) fun x58 =>
    d_law00_Master_L1 x3 x5 x8 n (x58 : Int) (y5_3 : List (List Int)) (y5_4 : List (List Int))) (some ((y2_4 : List (List Int)), (y2_5 : List (List Int))))
def d_law00_Master (n : Nat) (a1 : Int) : Option (GMaster) :=
(d_law00_Place a1 1073741824).bind fun x3 =>
bnd (x3.tmod 2) fun x4 =>
bnd (w64 (2 + x4)) fun x5 =>
bnd (w64 (x3.tdiv 2)) fun x6 =>
bnd (x6.tmod 3) fun x7 =>
bnd (w64 (2 + x7)) fun x8 =>
bnd (w64 (x3.tdiv 6)) fun x9 =>
bnd (x9.tmod 4) fun x10 =>
bnd (w64 (1 + x10)) fun x11 =>
(show Option ((List Int)) from
d_law00_Master_L0 x3 x8 n (0 : Int) (([] : List Int) : List Int)).bind <| fun y1_2 =>
(show Option ((List (List Int)) × (List (List Int))) from
d_law00_Master_L1 x3 x5 x8 n (0 : Int) (([] : List (List Int)) : List (List Int)) (([] : List (List Int)) : List (List Int))).bind <| p2 fun (y6_3 : List (List Int)) (y6_4 : List (List Int)) =>
some (((⟨x5, x11, y1_2, y6_3, y6_4⟩ : GMaster) : GMaster))
theorem d_law00_Master_c {n : Nat} {a1 : Int} {r : GMaster} (h0 : d_law00_Master n a1 = some r) : PP Try.prog 16 [int a1] (fun y => y = .agg (GMaster.av r)) := by
  unfold d_law00_Master at h0
  refine pp_of_pc (R0 := fun y H => Cv (frzH H) y (.agg (GMaster.av r))) ?_ (fun y H hc => ⟨_, rfl, (fun (a : GMaster) => PV.agg (GMaster.pvc a)) r, hc⟩)
  refine pcw (c := _) Try.func16 rfl rfl ?_; intro Q hret hnorm
  refine tc tbk 2 (.mk ?_)
  refine sA 1 z37 fun v2 => ?_
  refine tr tbk 4 (.mk ?_)
  obtain ⟨x3, e3, h0⟩ := bind_e h0
  refine sC cal19 (d_law00_Place_c e3) ?_
  refine tr tbk 5 (.mk ?_)
  refine ni tbk h0 fun x4 h0 => ?_
  refine ni tbk h0 fun x5 h0 => ?_
  refine tr tbk 1 (.mk ?_)
  refine ni tbk h0 fun x6 h0 => ?_
  refine ni tbk h0 fun x7 h0 => ?_
  refine ni tbk h0 fun x8 h0 => ?_
  refine tr tbk 7 (.mk ?_)
  refine ni tbk h0 fun x9 h0 => ?_
  refine ni tbk h0 fun x10 h0 => ?_
  refine ni tbk h0 fun x11 h0 => ?_
  refine tr tbk 1 (.mk ?_)
  refine sA 2 z37 fun v12 => ?_
  refine sS ⟨37, 5, true, true, v12, [[int x5, int x11, .sc (.slice none 0 0), .sc (.slice none 0 0), .sc (.slice none 0 0)]]⟩ sh37 ?_
  refine tr tbk 6 (.mk ?_)
  refine jn h0 [2, 3, 4, 5, 6] [1] (fun (a : (List Int)) (k : Nat) => []) (fun a k => [(2, ⟨37, 5, true, true, v12, [[int x5, int x11, .sl 4 k 0 a.length, .sc (.slice none 0 0), .sc (.slice none 0 0)]]⟩), (4, ⟨3, 1, true, true, k, a.map fI⟩)]) ⟨fun j13 h1 => ?_, ?_⟩
  refine tc tbk 1 (.mk ?_)
  refine c_nilcell 2 0 2 4 3 1 (rows := fun v14 => [[int x5, int x11, .sl 4 v14 0 0, .sc (.slice none 0 0), .sc (.slice none 0 0)]]) rfl rfl rfl rfl (fun _ => rfl) ?_; intro v14
  refine lp (fun n (a : Int × (List Int)) => d_law00_Master_L0 x3 x8 n a.1 a.2) ((0 : Int), (([] : List Int) : List Int)) v14 h1 [2, 3, 4, 5, 6] [1] (fun (a : Int × (List Int)) (k : Nat) => [(7, int a.1)]) (fun a k => [(2, ⟨37, 5, true, true, v12, [[int x5, int x11, .sl 4 k 0 a.2.length, .sc (.slice none 0 0), .sc (.slice none 0 0)]]⟩), (4, ⟨3, 1, true, true, k, a.2.map fI⟩)]) (fun _ => rfl) ⟨leA, ?_⟩
  rintro n ⟨y0_1, y0_3⟩ w0_2 hm h1
  replace h1 : d_law00_Master_L0 x3 x8 (n + 1) y0_1 y0_3 = some _ := h1
  rw [d_law00_Master_L0] at h1
  refine tc tbk 5 (.mk ?_)
  refine nb tbk h1 fun x15 h1 => ?_
  refine tr tbk 1 (.mk ?_)
  cases x15
  replace h1 := cf h1
  refine tc tbk 2 (.mk ?_)
  exact lf h1 w0_2 leA
  replace h1 := ct h1
  refine tc tbk 8 (.mk ?_)
  refine ni tbk h1 fun x16 h1 => ?_
  refine ni tbk h1 fun x17 h1 => ?_
  refine tr tbk 1 (.mk ?_)
  refine ni tbk h1 fun x18 h1 => ?_
  refine sY (yv_to (y := lst 1 fI ([x18] : List Int)) (yv_buildSlice (ps := [(0, _)]) (rows := [[int x18]]) rfl Try.underlying26 bz3 (.cons rfl .nil) (by kernel_rfl) rfl rfl rfl) rfl) ?_
  obtain ⟨x19, e19, h1⟩ := bnd_e h1
  obtain ⟨p20, h1⟩ := asrt_e h1
  refine rse rfl rfl rfl (yl_appT (g := fI) (l := y0_3) (m := ([x18] : List Int)) .any rfl Try.underlying26 bz3 by3 rfl rfl rfl rfl rfl rfl rfl rfl rfl rfl (Eq.symm rfl) (.refl _) (fun _ => rfl) e19 p20) ?_; rintro _ _ ⟨v21, -, rfl, rfl⟩
  refine tr tbk 1 (.mk ?_)
  refine sS ⟨37, 5, true, true, v12, [[int x5, int x11, .sl 4 v21 0 x19.length, .sc (.slice none 0 0), .sc (.slice none 0 0)]]⟩ sh26 ?_
  refine tr tbk 4 (.mk ?_)
  refine ni tbk h1 fun x22 h1 => ?_
  refine tr tbk 2 (.mk ?_)
  exact bk (x22, x19) v21 h1 leA
  rintro y1_2 w1_1 h0
  refine tc tbk 5 (.mk ?_)
  refine jn h0 [2, 6] [1, 4] (fun (a : (List (List Int)) × (List (List Int))) (k : Nat × Nat) => []) (fun a k => [(2, ⟨37, 5, true, true, v12, [[int x5, int x11, .sl 4 w1_1 0 y1_2.length, .sl 11 k.1 0 a.1.length, .sl 12 k.2 0 a.2.length]]⟩), (11, ⟨26, 1, true, true, k.1, a.1.map (fL 1 fI)⟩), (12, ⟨26, 1, true, true, k.2, a.2.map (fL 1 fI)⟩)]) ⟨fun j23 h1 => ?_, ?_⟩
  refine tc tbk 1 (.mk ?_)
  refine c_nilcell 2 0 3 11 26 1 (rows := fun v24 => [[int x5, int x11, .sl 4 w1_1 0 y1_2.length, .sl 11 v24 0 0, .sc (.slice none 0 0)]]) rfl rfl rfl rfl (fun _ => rfl) ?_; intro v24
  refine c_nilcell 2 0 4 12 26 1 (rows := fun v25 => [[int x5, int x11, .sl 4 w1_1 0 y1_2.length, .sl 11 v24 0 0, .sl 12 v25 0 0]]) rfl rfl rfl rfl (fun _ => rfl) ?_; intro v25
  refine lp (fun n (a : Int × (List (List Int)) × (List (List Int))) => d_law00_Master_L1 x3 x5 x8 n a.1 a.2.1 a.2.2) ((0 : Int), (([] : List (List Int)) : List (List Int)), (([] : List (List Int)) : List (List Int))) (v24, v25) h1 [2, 3, 4, 5, 6] [1, 4] (fun (a : Int × (List (List Int)) × (List (List Int))) (k : Nat × Nat) => [(8, int a.1)]) (fun a k => [(2, ⟨37, 5, true, true, v12, [[int x5, int x11, .sl 4 w1_1 0 y1_2.length, .sl 11 k.1 0 a.2.1.length, .sl 12 k.2 0 a.2.2.length]]⟩), (11, ⟨26, 1, true, true, k.1, a.2.1.map (fL 1 fI)⟩), (12, ⟨26, 1, true, true, k.2, a.2.2.map (fL 1 fI)⟩)]) (fun _ => rfl) ⟨leA, ?_⟩
  rintro n ⟨y2_1, y2_4, y2_5⟩ ⟨w2_2, w2_3⟩ hm h1
  replace h1 : d_law00_Master_L1 x3 x5 x8 (n + 1) y2_1 y2_4 y2_5 = some _ := h1
  rw [d_law00_Master_L1] at h1
  refine tc tbk 5 (.mk ?_)
  refine nb tbk h1 fun x26 h1 => ?_
  refine tr tbk 1 (.mk ?_)
  cases x26
  replace h1 := cf h1
  refine tc tbk 2 (.mk ?_)
  exact lf h1 (w2_2, w2_3) leA
  replace h1 := ct h1
  refine tc tbk 3 (.mk ?_)
  refine jn h1 [2, 3, 4, 5, 6, 8] [1, 4] (fun (a : (List (List Int)) × (List (List Int))) (k : Nat × Nat) => []) (fun a k => [(2, ⟨37, 5, true, true, v12, [[int x5, int x11, .sl 4 w1_1 0 y1_2.length, .sl 11 k.1 0 a.1.length, .sl 12 k.2 0 a.2.length]]⟩), (11, ⟨26, 1, true, true, k.1, a.1.map (fL 1 fI)⟩), (12, ⟨26, 1, true, true, k.2, a.2.map (fL 1 fI)⟩)]) ⟨fun j27 h2 => ?_, ?_⟩
  refine tc tbk 11 (.mk ?_)
  refine jn h2 [2, 3, 4, 5, 6, 8] [1, 2, 4, 11, 12] (fun (a : (List Int) × (List Int)) (k : Nat × Nat) => [(9, .sl 7 k.1 0 a.1.length), (10, .sl 8 k.2 0 a.2.length)]) (fun a k => [(7, ⟨3, 1, true, true, k.1, a.1.map fI⟩), (8, ⟨3, 1, true, true, k.2, a.2.map fI⟩)]) ⟨fun j28 h3 => ?_, ?_⟩
  refine tc tbk 1 (.mk ?_)
  refine c_nilobj 9 7 3 1 rfl rfl ?_; intro v29
  refine c_nilobj 10 8 3 1 rfl rfl ?_; intro v30
  refine lp (fun n (a : Int × (List Int) × (List Int)) => d_law00_Master_L2 x3 x8 y2_1 n a.1 a.2.1 a.2.2) ((0 : Int), (([] : List Int) : List Int), (([] : List Int) : List Int)) (v29, v30) h3 [2, 3, 4, 5, 6, 8] [1, 2, 4, 11, 12] (fun (a : Int × (List Int) × (List Int)) (k : Nat × Nat) => [(9, .sl 7 k.1 0 a.2.1.length), (10, .sl 8 k.2 0 a.2.2.length), (11, int a.1)]) (fun a k => [(7, ⟨3, 1, true, true, k.1, a.2.1.map fI⟩), (8, ⟨3, 1, true, true, k.2, a.2.2.map fI⟩)]) (fun _ => rfl) ⟨leA, ?_⟩
  rintro n ⟨y3_3, y3_4, y3_5⟩ ⟨w3_1, w3_2⟩ hm h3
  replace h3 : d_law00_Master_L2 x3 x8 y2_1 (n + 1) y3_3 y3_4 y3_5 = some _ := h3
  rw [d_law00_Master_L2] at h3
  refine tc tbk 5 (.mk ?_)
  refine nb tbk h3 fun x31 h3 => ?_
  refine tr tbk 1 (.mk ?_)
  cases x31
  replace h3 := cf h3
  refine tc tbk 2 (.mk ?_)
  exact lf h3 (w3_1, w3_2) leA
  replace h3 := ct h3
  refine tc tbk 7 (.mk ?_)
  refine ni tbk h3 fun x32 h3 => ?_
  refine tr tbk 1 (.mk ?_)
  refine ni tbk h3 fun x33 h3 => ?_
  refine tr tbk 2 (.mk ?_)
  refine ni tbk h3 fun x34 h3 => ?_
  refine ni tbk h3 fun x35 h3 => ?_
  refine ni tbk h3 fun x36 h3 => ?_
  refine ni tbk h3 fun x37 h3 => ?_
  refine ni tbk h3 fun x38 h3 => ?_
  refine ni tbk h3 fun x39 h3 => ?_
  refine sY (yv_to (y := lst 1 fI ([x39] : List Int)) (yv_buildSlice (ps := [(0, _)]) (rows := [[int x39]]) rfl Try.underlying26 bz3 (.cons rfl .nil) (by kernel_rfl) rfl rfl rfl) rfl) ?_
  obtain ⟨x40, e40, h3⟩ := bnd_e h3
  obtain ⟨p41, h3⟩ := asrt_e h3
  refine rse rfl rfl rfl (yl_appT (g := fI) (l := y3_4) (m := ([x39] : List Int)) .any rfl Try.underlying26 bz3 by3 rfl rfl rfl rfl rfl rfl rfl rfl rfl rfl (Eq.symm rfl) (.refl _) (fun _ => rfl) e40 p41) ?_; rintro _ _ ⟨v42, -, rfl, rfl⟩
  refine tr tbk 2 (.mk ?_)
  refine ni tbk h3 fun x43 h3 => ?_
  refine tr tbk 1 (.mk ?_)
  refine ni tbk h3 fun x44 h3 => ?_
  refine ni tbk h3 fun x45 h3 => ?_
  refine tr tbk 1 (.mk ?_)
  refine ni tbk h3 fun x46 h3 => ?_
  refine ni tbk h3 fun x47 h3 => ?_
  refine sY (yv_to (y := lst 1 fI ([x47] : List Int)) (yv_buildSlice (ps := [(0, _)]) (rows := [[int x47]]) rfl Try.underlying26 bz3 (.cons rfl .nil) (by kernel_rfl) rfl rfl rfl) rfl) ?_
  obtain ⟨x48, e48, h3⟩ := bnd_e h3
  obtain ⟨p49, h3⟩ := asrt_e h3
  refine rse rfl rfl rfl (yl_appT (g := fI) (l := y3_5) (m := ([x47] : List Int)) .any rfl Try.underlying26 bz3 by3 rfl rfl rfl rfl rfl rfl rfl rfl rfl rfl (Eq.symm rfl) (.refl _) (fun _ => rfl) e48 p49) ?_; rintro _ _ ⟨v50, -, rfl, rfl⟩
  refine tr tbk 6 (.mk ?_)
  refine ni tbk h3 fun x51 h3 => ?_
  refine tr tbk 2 (.mk ?_)
  exact bk (x51, x40, x48) (v42, v50) h3 leA
  rintro ⟨y4_3, y4_4⟩ ⟨w4_1, w4_2⟩ h2
  replace h2 := p2_e h2
  refine c_drawE [0, 1, 0, 4, 15, 0, 32, 0, 128, 511, 127, 2047, 4095, 8191] (rl [(0, [2]), (1, [2]), (5, [2]), (6, [2]), (10, [2]), (12, [2])] []) (rl [(11, []), (13, [])] [2]) (rl [(4, false), (9, false), (11, false), (13, false)] true) [0, 1, 2, 3, 5, 6, 7, 8, 4, 10, 9, 11, 12, 13] mixed (by kernel_rfl) ?_; intro K hK
  refine eF fo37_3 ?_
  refine eL sh35 ?_
  refine eM ?_
  refine eP (fun H hH => yv_buildSlice (ps := [(0, _)]) (rows := [[.sl 7 w4_1 0 y4_3.length]]) rfl Try.underlying35 bz26 (.cons rfl .nil) (by kernel_rfl) rfl rfl rfl) ?_
  refine eF fo37_4 ?_
  refine eL sh35 ?_
  refine eM ?_
  refine eP (fun H hH => yv_buildSlice (ps := [(0, _)]) (rows := [[.sl 8 w4_2 0 y4_4.length]]) rfl Try.underlying35 bz26 (.cons rfl .nil) (by kernel_rfl) rfl rfl rfl) ?_
  obtain ⟨x52, e52, h2⟩ := bnd_e h2
  obtain ⟨p53, h2⟩ := asrt_e h2
  refine de_eff rfl rfl rfl rfl (Yield.frz 7 rfl (yl_appT (g := (fL 1 fI)) (l := y2_4) (m := [y4_3]) .any rfl Try.underlying35 bz26 by26 rfl rfl rfl rfl rfl rfl rfl rfl rfl rfl (Eq.symm rfl) (CvLL.list (.cons (.cons (cv_lst rfl rfl rfl rfl rfl (Eq.symm rfl)) .nil) .nil)) (fun _ => rfl) e52 p53)) (by rintro _ _ ⟨v54, -, rfl, rfl⟩; exact ⟨rfl, trivial⟩) ?_; rintro _ _ ⟨v54, -, rfl, rfl⟩
  refine eF fo37_3 ?_
  obtain ⟨x55, e55, h2⟩ := bnd_e h2
  obtain ⟨p56, h2⟩ := asrt_e h2
  refine de_eff rfl rfl rfl rfl (Yield.frz 8 rfl (yl_appT (g := (fL 1 fI)) (l := y2_5) (m := [y4_4]) .any rfl Try.underlying35 bz26 by26 rfl rfl rfl rfl rfl rfl rfl rfl rfl rfl (Eq.symm rfl) (CvLL.list (.cons (.cons (cv_lst rfl rfl rfl rfl rfl (Eq.symm rfl)) .nil) .nil)) (fun _ => rfl) e55 p56)) (by rintro _ _ ⟨v57, -, rfl, rfl⟩; exact ⟨rfl, trivial⟩) ?_; rintro _ _ ⟨v57, -, rfl, rfl⟩
  refine de_eff0 rfl rfl rfl rfl (Yield.weak (yl_ob (ob' := (⟨37, 5, true, true, v12, [[int x5, int x11, .sl 4 w1_1 0 y1_2.length, .sl 11 v54 0 x52.length, .sl 12 w2_3 0 y2_5.length]]⟩ : AObj)) (yl_store rfl sh35 rfl rfl rfl rfl rfl rfl rfl rfl rfl) rfl) (fun _ h => h) (fun _ _ => trivial)) (by rintro _ _ ⟨rfl, rfl⟩; exact trivial) ?_; rintro _ _ ⟨rfl, rfl⟩
  refine eF fo37_4 ?_
  refine de_eff0 rfl rfl rfl rfl (Yield.weak (yl_ob (ob' := (⟨37, 5, true, true, v12, [[int x5, int x11, .sl 4 w1_1 0 y1_2.length, .sl 11 v54 0 x52.length, .sl 12 v57 0 x55.length]]⟩ : AObj)) (yl_store rfl sh35 rfl rfl rfl rfl rfl rfl rfl rfl rfl) rfl) (fun _ h => h) (fun _ _ => trivial)) (by rintro _ _ ⟨rfl, rfl⟩; exact trivial) ?_; rintro _ _ ⟨rfl, rfl⟩
  refine de_nil (hK _ ?_)
  refine tc tbk 1 (.mk ?_)
  exact lf h2 (v54, v57) leA
  rintro ⟨y5_3, y5_4⟩ ⟨w5_1, w5_2⟩ h1
  replace h1 := p2_e h1
  refine tc tbk 2 (.mk ?_)
  refine ni tbk h1 fun x58 h1 => ?_
  refine tr tbk 2 (.mk ?_)
  exact bk (x58, y5_3, y5_4) (w5_1, w5_2) h1 leA
  rintro ⟨y6_3, y6_4⟩ ⟨w6_1, w6_2⟩ h0
  replace h0 := p2_e h0
  refine tc tbk 3 (.mk ?_)
  refine sS ⟨37, 5, true, true, v2, [[int x5, int x11, .sl 4 w1_1 0 y1_2.length, .sl 11 w6_1 0 y6_3.length, .sl 12 w6_2 0 y6_4.length]]⟩ sh37 ?_
  refine tr tbk 1 (.mk ?_)
  obtain rfl := nxt_e h0
  refine wR hret (rC sh37 .nil) ?_
  exact (CvL.agg (.cons (.refl _) (.cons (.refl _) (.cons (cv_lst rfl rfl rfl rfl rfl (Eq.symm rfl)) (.cons (cv_lst rfl rfl rfl rfl rfl (Eq.symm rfl)) (.cons (cv_lst rfl rfl rfl rfl rfl (Eq.symm rfl)) .nil))))))
def d_law00_Op (a1 : GMaster) (a2 : Int) : Option (GOp) :=
(d_law00_Place a2 1099511627776).bind fun x5 =>
bnd (w64 (x5.tdiv 32)) fun x6 =>
asrt (a1.Entities ≠ 0) <|
bnd (x6.tmod a1.Entities) fun x8 =>
bnd (w64 (x5.tdiv 128)) fun x9 =>
asrt ((a1.Weights.length : Int) ≠ 0) <|
bnd (x9.tmod (a1.Weights.length : Int)) fun x11 =>
bnd (w64 (x5.tdiv 1024)) fun x12 =>
bnd (x12.tmod 8) fun x13 =>
bnd (w64 (x13.tdiv 7)) fun x14 =>
bnd (w64 (x5.tdiv 8192)) fun x15 =>
bnd (x15.tmod 24) fun x16 =>
bnd (w64 (1 + x16)) fun x17 =>
bnd (w64 (x5.tdiv 196608)) fun x18 =>
bnd (x18.tmod 900) fun x19 =>
bnd (w64 (x5.tdiv 7000000)) fun x20 =>
bnd (x20.tmod 12) fun x21 =>
bnd (x5.tmod 32) fun x22 =>
bnd (decide (x22 < 8)) fun x23 =>
cond x23 (some (((⟨1, x8, x11, x14, 0, x17, x19, 0, []⟩ : GOp) : GOp))) (bnd (decide (x22 < 11)) fun x24 =>
cond x24 (bnd (w64 (x17.tdiv 3)) fun x70 =>
bnd (w64 (1 + x70)) fun x71 =>
some (((⟨2, 0, 0, 0, 0, x71, x19, x21, []⟩ : GOp) : GOp))) (bnd (decide (x22 = 11)) fun x25 =>
cond x25 (bnd (w64 (x17.tdiv 6)) fun x68 =>
bnd (w64 (1 + x68)) fun x69 =>
some (((⟨3, 0, 0, 0, 0, x69, 0, x21, []⟩ : GOp) : GOp))) (bnd (decide (x22 < 17)) fun x26 =>
cond x26 (bnd (w64 (x17.tdiv 3)) fun x66 =>
bnd (w64 (1 + x66)) fun x67 =>
some (((⟨4, x8, x11, x14, 0, x67, x19, 0, []⟩ : GOp) : GOp))) (bnd (decide (x22 < 19)) fun x27 =>
cond x27 (bnd (w64 (x17.tdiv 8)) fun x64 =>
bnd (w64 (1 + x64)) fun x65 =>
some (((⟨5, 0, 0, 0, 0, x65, x19, x21, []⟩ : GOp) : GOp))) (bnd (decide (x22 = 19)) fun x28 =>
cond x28 (bnd (w64 (x17.tdiv 8)) fun x62 =>
bnd (w64 (1 + x62)) fun x63 =>
some (((⟨6, x8, x11, x14, 0, x63, 0, 0, []⟩ : GOp) : GOp))) (bnd (decide (x22 = 20)) fun x29 =>
cond x29 (bnd (w64 (x17 - 1)) fun x61 =>
some (((⟨7, x8, x11, x14, 0, x61, 0, 0, []⟩ : GOp) : GOp))) (bnd (decide (x22 = 21)) fun x30 =>
cond x30 (bnd (w64 (1 - x14)) fun x58 =>
bnd (w64 (x17.tdiv 3)) fun x59 =>
bnd (w64 (1 + x59)) fun x60 =>
some (((⟨8, x8, x11, x14, x58, x60, 0, 0, []⟩ : GOp) : GOp))) (bnd (decide (x22 = 22)) fun x31 =>
cond x31 (bnd (x19.tmod 60) fun x57 =>
some (((⟨9, x8, x11, 0, 0, 0, x57, 0, []⟩ : GOp) : GOp))) (bnd (decide (x22 = 23)) fun x32 =>
cond x32 (bnd (x19.tmod 60) fun x56 =>
some (((⟨10, x8, x11, 0, 0, 0, x56, 0, []⟩ : GOp) : GOp))) (bnd (decide (x22 = 24)) fun x33 =>
cond x33 (bnd (w64 (x21 + 1)) fun x49 =>
bnd (x49.tmod 12) fun x50 =>
bnd (w64 (x21 + 1)) fun x51 =>
bnd (w64 (x21 + 2)) fun x52 =>
bnd (x17.tmod 3) fun x53 =>
(ix ([([x21] : List Int), ([x21, x50] : List Int), ([0, x51, x52] : List Int)] : List (List Int)) x53).bind fun x54 =>
bnd (x19.tmod 3) fun x55 =>
some (((⟨11, 0, 0, 0, x55, 0, x19, 0, x54⟩ : GOp) : GOp))) (bnd (decide (x22 < 27)) fun x34 =>
cond x34 (bnd (w64 (x8 + 1)) fun x40 =>
bnd (w64 (a1.Entities - 1)) fun x41 =>
asrt (x41 ≠ 0) <|
bnd (x19.tmod x41) fun x43 =>
bnd (w64 (x40 + x43)) fun x44 =>
asrt (a1.Entities ≠ 0) <|
bnd (x44.tmod a1.Entities) fun x46 =>
bnd (w64 (x17.tdiv 3)) fun x47 =>
bnd (w64 (1 + x47)) fun x48 =>
some (((⟨12, x8, x11, x14, x46, x48, x19, 0, []⟩ : GOp) : GOp))) (bnd (decide (x22 < 29)) fun x35 =>
cond x35 (bnd (w64 (x17.tdiv 4)) fun x38 =>
bnd (w64 (1 + x38)) fun x39 =>
some (((⟨13, 0, 0, x14, 0, x39, 0, x21, []⟩ : GOp) : GOp))) (bnd (decide (x22 = 29)) fun x36 =>
cond x36 (some (((⟨14, x8, 0, 0, 0, 0, 0, 0, []⟩ : GOp) : GOp))) (bnd (decide (x22 = 30)) fun x37 =>
cond x37 (some (((⟨15, x8, 0, 0, 0, 0, 0, 0, []⟩ : GOp) : GOp))) (some (((⟨16, x8, 0, 0, 0, 0, 0, 0, []⟩ : GOp) : GOp)))))))))))))))))
theorem d_law00_Op_c {a1 : GMaster} {a2 : Int} {r : GOp} (h0 : d_law00_Op a1 a2 = some r) : PP Try.prog 17 [.agg (GMaster.av a1), int a2] (fun y => y = .agg (GOp.av r)) := by
  unfold d_law00_Op at h0
  refine pp_of_pc (R0 := fun y H => Cv (frzH H) y (.agg (GOp.av r))) ?_ (fun y H hc => ⟨_, rfl, (fun (a : GOp) => PV.agg (GOp.pvc a)) r, hc⟩)
  refine pcw (c := _) Try.func17 rfl rfl ?_; intro Q hret hnorm
  refine tc tbk 2 (.mk ?_)
  refine sB 1 fun v3 => ?_
  refine sA 2 z28 fun v4 => ?_
  refine tr tbk 4 (.mk ?_)
  obtain ⟨x5, e5, h0⟩ := bind_e h0
  refine sC cal19 (d_law00_Place_c e5) ?_
  refine tr tbk 3 (.mk ?_)
  refine c_drawE [0, 1, 0, 4, 15, 0, 32, 0, 128, 384, 992, 0, 2048, 6144, 14336, 31, 34815, 131071] (rl [(2, [1]), (3, [1]), (7, [1]), (8, [1])] []) (fun i => [1]) (fun i => true) [0, 1, 2, 3, 4, 5, 6, 7, 8, 9, 10, 11, 12, 13, 14, 15, 16, 17] mixed (by kernel_rfl) ?_; intro K hK
  refine eM ?_
  obtain ⟨x6, e6, h0⟩ := bnd_e h0
  refine de_pure rfl rfl rfl rfl (fun H hH => yv_quo rfl rfl rfl (by decide) e6) ?_
  refine eF fo37_0 ?_
  refine eL sh3 ?_
  obtain ⟨p7, h0⟩ := asrt_e h0
  obtain ⟨x8, e8, h0⟩ := bnd_e h0
  refine eP (fun H hH => yv_rem rfl rfl rfl p7 e8) ?_
  refine eM ?_
  obtain ⟨x9, e9, h0⟩ := bnd_e h0
  refine de_pure rfl rfl rfl rfl (fun H hH => yv_quo rfl rfl rfl (by decide) e9) ?_
  refine eF fo37_2 ?_
  refine eL sh26 ?_
  refine eP (fun H hH => yv_len_sl rfl Try.underlying26 rfl (lst_len _)) ?_
  obtain ⟨p10, h0⟩ := asrt_e h0
  obtain ⟨x11, e11, h0⟩ := bnd_e h0
  refine eP (fun H hH => yv_rem rfl rfl rfl p10 e11) ?_
  refine eM ?_
  obtain ⟨x12, e12, h0⟩ := bnd_e h0
  refine de_pure rfl rfl rfl rfl (fun H hH => yv_quo rfl rfl rfl (by decide) e12) ?_
  obtain ⟨x13, e13, h0⟩ := bnd_e h0
  refine de_pure rfl rfl rfl rfl (fun H hH => yv_rem rfl rfl rfl (by decide) e13) ?_
  obtain ⟨x14, e14, h0⟩ := bnd_e h0
  refine de_pure rfl rfl rfl rfl (fun H hH => yv_quo rfl rfl rfl (by decide) e14) ?_
  iterate 3 refine eA ?_
  refine de_nil (hK _ ?_)
  refine tc tbk 3 (.mk ?_)
  refine ni tbk h0 fun x15 h0 => ?_
  refine ni tbk h0 fun x16 h0 => ?_
  refine ni tbk h0 fun x17 h0 => ?_
  refine tr tbk 1 (.mk ?_)
  refine ni tbk h0 fun x18 h0 => ?_
  refine ni tbk h0 fun x19 h0 => ?_
  refine tr tbk 1 (.mk ?_)
  refine ni tbk h0 fun x20 h0 => ?_
  refine ni tbk h0 fun x21 h0 => ?_
  refine tr tbk 8 (.mk ?_)
  refine ni tbk h0 fun x22 h0 => ?_
  refine tr tbk 6 (.mk ?_)
  refine nb tbk h0 fun x23 h0 => ?_
  refine tr tbk 2 (.mk ?_)
  cases x23
  replace h0 := cf h0
  refine tc tbk 4 (.mk ?_)
  refine nb tbk h0 fun x24 h0 => ?_
  refine tr tbk 2 (.mk ?_)
  cases x24
  replace h0 := cf h0
  refine tc tbk 4 (.mk ?_)
  refine nb tbk h0 fun x25 h0 => ?_
  refine tr tbk 2 (.mk ?_)
  cases x25
  replace h0 := cf h0
  refine tc tbk 4 (.mk ?_)
  refine nb tbk h0 fun x26 h0 => ?_
  refine tr tbk 2 (.mk ?_)
  cases x26
  replace h0 := cf h0
  refine tc tbk 4 (.mk ?_)
  refine nb tbk h0 fun x27 h0 => ?_
  refine tr tbk 2 (.mk ?_)
  cases x27
  replace h0 := cf h0
  refine tc tbk 4 (.mk ?_)
  refine nb tbk h0 fun x28 h0 => ?_
  refine tr tbk 2 (.mk ?_)
  cases x28
  replace h0 := cf h0
  refine tc tbk 4 (.mk ?_)
  refine nb tbk h0 fun x29 h0 => ?_
  refine tr tbk 2 (.mk ?_)
  cases x29
  replace h0 := cf h0
  refine tc tbk 4 (.mk ?_)
  refine nb tbk h0 fun x30 h0 => ?_
  refine tr tbk 2 (.mk ?_)
  cases x30
  replace h0 := cf h0
  refine tc tbk 4 (.mk ?_)
  refine nb tbk h0 fun x31 h0 => ?_
  refine tr tbk 2 (.mk ?_)
  cases x31
  replace h0 := cf h0
  refine tc tbk 4 (.mk ?_)
  refine nb tbk h0 fun x32 h0 => ?_
  refine tr tbk 2 (.mk ?_)
  cases x32
  replace h0 := cf h0
  refine tc tbk 4 (.mk ?_)
  refine nb tbk h0 fun x33 h0 => ?_
  refine tr tbk 2 (.mk ?_)
  cases x33
  replace h0 := cf h0
  refine tc tbk 4 (.mk ?_)
  refine nb tbk h0 fun x34 h0 => ?_
  refine tr tbk 2 (.mk ?_)
  cases x34
  replace h0 := cf h0
  refine tc tbk 4 (.mk ?_)
  refine nb tbk h0 fun x35 h0 => ?_
  refine tr tbk 2 (.mk ?_)
  cases x35
  replace h0 := cf h0
  refine tc tbk 4 (.mk ?_)
  refine nb tbk h0 fun x36 h0 => ?_
  refine tr tbk 2 (.mk ?_)
  cases x36
  replace h0 := cf h0
  refine tc tbk 4 (.mk ?_)
  refine nb tbk h0 fun x37 h0 => ?_
  refine tr tbk 2 (.mk ?_)
  cases x37
  replace h0 := cf h0
  refine tc tbk 6 (.mk ?_)
  refine sY (yv_build (cs := [int 16, int x8, int 0, int 0, int 0, int 0, int 0, int 0, .sc (.slice none 0 0)]) (ps := [(0, _), (1, _)]) rfl pl28 z28 rfl (.cons rfl (.cons rfl .nil)) (by kernel_rfl)) ?_
  refine sS ⟨28, 9, true, true, v4, [[int 16, int x8, int 0, int 0, int 0, int 0, int 0, int 0, .sc (.slice none 0 0)]]⟩ sh28 ?_
  refine tr tbk 1 (.mk ?_)
  obtain rfl := nxt_e h0
  refine wR hret (rC sh28 .nil) ?_
  exact (CvL.agg (.cons (.refl _) (.cons (.refl _) (.cons (.refl _) (.cons (.refl _) (.cons (.refl _) (.cons (.refl _) (.cons (.refl _) (.cons (.refl _) (.cons (.nil _) .nil))))))))))
  replace h0 := ct h0
  refine tc tbk 4 (.mk ?_)
  refine sY (yv_build (cs := [int 15, int x8, int 0, int 0, int 0, int 0, int 0, int 0, .sc (.slice none 0 0)]) (ps := [(0, _), (1, _)]) rfl pl28 z28 rfl (.cons rfl (.cons rfl .nil)) (by kernel_rfl)) ?_
  refine sS ⟨28, 9, true, true, v4, [[int 15, int x8, int 0, int 0, int 0, int 0, int 0, int 0, .sc (.slice none 0 0)]]⟩ sh28 ?_
  refine tr tbk 1 (.mk ?_)
  obtain rfl := nxt_e h0
  refine wR hret (rC sh28 .nil) ?_
  exact (CvL.agg (.cons (.refl _) (.cons (.refl _) (.cons (.refl _) (.cons (.refl _) (.cons (.refl _) (.cons (.refl _) (.cons (.refl _) (.cons (.refl _) (.cons (.nil _) .nil))))))))))
  replace h0 := ct h0
  refine tc tbk 4 (.mk ?_)
  refine sY (yv_build (cs := [int 14, int x8, int 0, int 0, int 0, int 0, int 0, int 0, .sc (.slice none 0 0)]) (ps := [(0, _), (1, _)]) rfl pl28 z28 rfl (.cons rfl (.cons rfl .nil)) (by kernel_rfl)) ?_
  refine sS ⟨28, 9, true, true, v4, [[int 14, int x8, int 0, int 0, int 0, int 0, int 0, int 0, .sc (.slice none 0 0)]]⟩ sh28 ?_
  refine tr tbk 1 (.mk ?_)
  obtain rfl := nxt_e h0
  refine wR hret (rC sh28 .nil) ?_
  exact (CvL.agg (.cons (.refl _) (.cons (.refl _) (.cons (.refl _) (.cons (.refl _) (.cons (.refl _) (.cons (.refl _) (.cons (.refl _) (.cons (.refl _) (.cons (.nil _) .nil))))))))))
  replace h0 := ct h0
  refine tc tbk 6 (.mk ?_)
  refine ni tbk h0 fun x38 h0 => ?_
  refine ni tbk h0 fun x39 h0 => ?_
  refine sY (yv_build (cs := [int 13, int 0, int 0, int x14, int 0, int x39, int 0, int x21, .sc (.slice none 0 0)]) (ps := [(0, _), (7, _), (3, _), (5, _)]) rfl pl28 z28 rfl (.cons rfl (.cons rfl (.cons rfl (.cons rfl .nil)))) (by kernel_rfl)) ?_
  refine sS ⟨28, 9, true, true, v4, [[int 13, int 0, int 0, int x14, int 0, int x39, int 0, int x21, .sc (.slice none 0 0)]]⟩ sh28 ?_
  refine tr tbk 1 (.mk ?_)
  obtain rfl := nxt_e h0
  refine wR hret (rC sh28 .nil) ?_
  exact (CvL.agg (.cons (.refl _) (.cons (.refl _) (.cons (.refl _) (.cons (.refl _) (.cons (.refl _) (.cons (.refl _) (.cons (.refl _) (.cons (.refl _) (.cons (.nil _) .nil))))))))))
  replace h0 := ct h0
  refine tc tbk 2 (.mk ?_)
  refine c_drawE [0, 0, 0, 0, 8, 0, 0, 64, 192, 480, 1016, 0, 2048, 8184, 0, 16384, 49152, 0, 262143, 524287] (rl [(6, [1]), (7, [1]), (11, [1]), (12, [1])] []) (rl [(19, [])] [1]) (rl [(19, false)] true) [0, 1, 2, 3, 4, 5, 6, 7, 8, 9, 10, 11, 12, 13, 14, 15, 16, 17, 18, 19] mixed (by kernel_rfl) ?_; intro K hK
  iterate 4 refine eM ?_
  obtain ⟨x40, e40, h0⟩ := bnd_e h0
  refine eP (fun H hH => yv_add rfl rfl rfl e40) ?_
  refine eM ?_
  refine eF fo37_0 ?_
  refine eL sh3 ?_
  obtain ⟨x41, e41, h0⟩ := bnd_e h0
  refine eP (fun H hH => yv_sub rfl rfl rfl e41) ?_
  obtain ⟨p42, h0⟩ := asrt_e h0
  obtain ⟨x43, e43, h0⟩ := bnd_e h0
  refine eP (fun H hH => yv_rem rfl rfl rfl p42 e43) ?_
  obtain ⟨x44, e44, h0⟩ := bnd_e h0
  refine eP (fun H hH => yv_add rfl rfl rfl e44) ?_
  refine eF fo37_0 ?_
  refine eL sh3 ?_
  obtain ⟨p45, h0⟩ := asrt_e h0
  obtain ⟨x46, e46, h0⟩ := bnd_e h0
  refine eP (fun H hH => yv_rem rfl rfl rfl p45 e46) ?_
  refine eM ?_
  obtain ⟨x47, e47, h0⟩ := bnd_e h0
  refine de_pure rfl rfl rfl rfl (fun H hH => yv_quo rfl rfl rfl (by decide) e47) ?_
  obtain ⟨x48, e48, h0⟩ := bnd_e h0
  refine eP (fun H hH => yv_add rfl rfl rfl e48) ?_
  refine eM ?_
  refine eP (fun H hH => yv_build (cs := [int 12, int x8, int x11, int x14, int x46, int x48, int x19, int 0, .sc (.slice none 0 0)]) (ps := [(0, _), (1, _), (2, _), (3, _), (4, _), (5, _), (6, _)]) rfl pl28 z28 rfl (.cons rfl (.cons rfl (.cons rfl (.cons rfl (.cons rfl (.cons rfl (.cons rfl .nil))))))) (by kernel_rfl)) ?_
  refine de_eff0 rfl rfl rfl rfl (Yield.weak (yl_ob (ob' := (⟨28, 9, true, true, v4, [[int 12, int x8, int x11, int x14, int x46, int x48, int x19, int 0, .sc (.slice none 0 0)]]⟩ : AObj)) (yl_store rfl sh28 rfl rfl rfl rfl rfl rfl rfl rfl rfl) rfl) (fun _ h => h) (fun _ _ => trivial)) (by rintro _ _ ⟨rfl, rfl⟩; exact trivial) ?_; rintro _ _ ⟨rfl, rfl⟩
  refine de_nil (hK _ ?_)
  obtain rfl := nxt_e h0
  refine wR hret (rC sh28 .nil) ?_
  exact (CvL.agg (.cons (.refl _) (.cons (.refl _) (.cons (.refl _) (.cons (.refl _) (.cons (.refl _) (.cons (.refl _) (.cons (.refl _) (.cons (.refl _) (.cons (.nil _) .nil))))))))))
  replace h0 := ct h0
  refine tc tbk 4 (.mk ?_)
  refine sY (yv_to (y := lst 1 fI ([x21] : List Int)) (yv_buildSlice (ps := [(0, _)]) (rows := [[int x21]]) rfl Try.underlying26 bz3 (.cons rfl .nil) (by kernel_rfl) rfl rfl rfl) rfl) ?_
  refine tr tbk 2 (.mk ?_)
  refine ni tbk h0 fun x49 h0 => ?_
  refine ni tbk h0 fun x50 h0 => ?_
  refine sY (yv_to (y := lst 1 fI ([x21, x50] : List Int)) (yv_buildSlice (ps := [(0, _), (1, _)]) (rows := [[int x21], [int x50]]) rfl Try.underlying26 bz3 (.cons rfl (.cons rfl .nil)) (by kernel_rfl) rfl rfl rfl) rfl) ?_
  refine tr tbk 1 (.mk ?_)
  refine ni tbk h0 fun x51 h0 => ?_
  refine tr tbk 1 (.mk ?_)
  refine ni tbk h0 fun x52 h0 => ?_
  refine sY (yv_to (y := lst 1 fI ([0, x51, x52] : List Int)) (yv_buildSlice (ps := [(0, _), (1, _), (2, _)]) (rows := [[int 0], [int x51], [int x52]]) rfl Try.underlying26 bz3 (.cons rfl (.cons rfl (.cons rfl .nil))) (by kernel_rfl) rfl rfl rfl) rfl) ?_
  refine sY (yv_buildA (cs := [lst 1 fI ([x21] : List Int), lst 1 fI ([x21, x50] : List Int), lst 1 fI ([0, x51, x52] : List Int)]) (ps := [(0, _), (1, _), (2, _)]) rfl Try.underlying80 sh26 z80 rfl (.cons rfl (.cons rfl (.cons rfl .nil))) (by kernel_rfl)) ?_
  refine tr tbk 1 (.mk ?_)
  refine ni tbk h0 fun x53 h0 => ?_
  obtain ⟨x54, e54, h0⟩ := bind_e h0
  refine sY (yv_indexAT (g := (fL 1 fI)) (l := ([([x21] : List Int), ([x21, x50] : List Int), ([0, x51, x52] : List Int)] : List (List Int))) (v := x54) (w := lst 1 fI x54) rfl Try.underlying80 sh26 rfl rfl rfl e54 (fun _ => rfl) hw1) ?_
  refine tr tbk 1 (.mk ?_)
  refine ni tbk h0 fun x55 h0 => ?_
  refine tr tbk 1 (.mk ?_)
  refine sY (yv_build (cs := [int 11, int 0, int 0, int 0, int x55, int 0, int x19, int 0, lst 1 fI x54]) (ps := [(0, _), (8, _), (4, _), (6, _)]) rfl pl28 z28 rfl (.cons rfl (.cons rfl (.cons rfl (.cons rfl .nil)))) (by kernel_rfl)) ?_
  refine sS ⟨28, 9, true, true, v4, [[int 11, int 0, int 0, int 0, int x55, int 0, int x19, int 0, lst 1 fI x54]]⟩ sh28 ?_
  refine tr tbk 1 (.mk ?_)
  obtain rfl := nxt_e h0
  refine wR hret (rC sh28 .nil) ?_
  exact .refl _
  replace h0 := ct h0
  refine tc tbk 6 (.mk ?_)
  refine ni tbk h0 fun x56 h0 => ?_
  refine sY (yv_build (cs := [int 10, int x8, int x11, int 0, int 0, int 0, int x56, int 0, .sc (.slice none 0 0)]) (ps := [(0, _), (1, _), (2, _), (6, _)]) rfl pl28 z28 rfl (.cons rfl (.cons rfl (.cons rfl (.cons rfl .nil)))) (by kernel_rfl)) ?_
  refine sS ⟨28, 9, true, true, v4, [[int 10, int x8, int x11, int 0, int 0, int 0, int x56, int 0, .sc (.slice none 0 0)]]⟩ sh28 ?_
  refine tr tbk 1 (.mk ?_)
  obtain rfl := nxt_e h0
  refine wR hret (rC sh28 .nil) ?_
  exact (CvL.agg (.cons (.refl _) (.cons (.refl _) (.cons (.refl _) (.cons (.refl _) (.cons (.refl _) (.cons (.refl _) (.cons (.refl _) (.cons (.refl _) (.cons (.nil _) .nil))))))))))
  replace h0 := ct h0
  refine tc tbk 6 (.mk ?_)
  refine ni tbk h0 fun x57 h0 => ?_
  refine sY (yv_build (cs := [int 9, int x8, int x11, int 0, int 0, int 0, int x57, int 0, .sc (.slice none 0 0)]) (ps := [(0, _), (1, _), (2, _), (6, _)]) rfl pl28 z28 rfl (.cons rfl (.cons rfl (.cons rfl (.cons rfl .nil)))) (by kernel_rfl)) ?_
  refine sS ⟨28, 9, true, true, v4, [[int 9, int x8, int x11, int 0, int 0, int 0, int x57, int 0, .sc (.slice none 0 0)]]⟩ sh28 ?_
  refine tr tbk 1 (.mk ?_)
  obtain rfl := nxt_e h0
  refine wR hret (rC sh28 .nil) ?_
  exact (CvL.agg (.cons (.refl _) (.cons (.refl _) (.cons (.refl _) (.cons (.refl _) (.cons (.refl _) (.cons (.refl _) (.cons (.refl _) (.cons (.refl _) (.cons (.nil _) .nil))))))))))
  replace h0 := ct h0
  refine tc tbk 7 (.mk ?_)
  refine ni tbk h0 fun x58 h0 => ?_
  refine tr tbk 1 (.mk ?_)
  refine ni tbk h0 fun x59 h0 => ?_
  refine ni tbk h0 fun x60 h0 => ?_
  refine sY (yv_build (cs := [int 8, int x8, int x11, int x14, int x58, int x60, int 0, int 0, .sc (.slice none 0 0)]) (ps := [(0, _), (1, _), (2, _), (3, _), (4, _), (5, _)]) rfl pl28 z28 rfl (.cons rfl (.cons rfl (.cons rfl (.cons rfl (.cons rfl (.cons rfl .nil)))))) (by kernel_rfl)) ?_
  refine sS ⟨28, 9, true, true, v4, [[int 8, int x8, int x11, int x14, int x58, int x60, int 0, int 0, .sc (.slice none 0 0)]]⟩ sh28 ?_
  refine tr tbk 1 (.mk ?_)
  obtain rfl := nxt_e h0
  refine wR hret (rC sh28 .nil) ?_
  exact (CvL.agg (.cons (.refl _) (.cons (.refl _) (.cons (.refl _) (.cons (.refl _) (.cons (.refl _) (.cons (.refl _) (.cons (.refl _) (.cons (.refl _) (.cons (.nil _) .nil))))))))))
  replace h0 := ct h0
  refine tc tbk 7 (.mk ?_)
  refine ni tbk h0 fun x61 h0 => ?_
  refine sY (yv_build (cs := [int 7, int x8, int x11, int x14, int 0, int x61, int 0, int 0, .sc (.slice none 0 0)]) (ps := [(0, _), (1, _), (2, _), (3, _), (5, _)]) rfl pl28 z28 rfl (.cons rfl (.cons rfl (.cons rfl (.cons rfl (.cons rfl .nil))))) (by kernel_rfl)) ?_
  refine sS ⟨28, 9, true, true, v4, [[int 7, int x8, int x11, int x14, int 0, int x61, int 0, int 0, .sc (.slice none 0 0)]]⟩ sh28 ?_
  refine tr tbk 1 (.mk ?_)
  obtain rfl := nxt_e h0
  refine wR hret (rC sh28 .nil) ?_
  exact (CvL.agg (.cons (.refl _) (.cons (.refl _) (.cons (.refl _) (.cons (.refl _) (.cons (.refl _) (.cons (.refl _) (.cons (.refl _) (.cons (.refl _) (.cons (.nil _) .nil))))))))))
  replace h0 := ct h0
  refine tc tbk 7 (.mk ?_)
  refine ni tbk h0 fun x62 h0 => ?_
  refine ni tbk h0 fun x63 h0 => ?_
  refine sY (yv_build (cs := [int 6, int x8, int x11, int x14, int 0, int x63, int 0, int 0, .sc (.slice none 0 0)]) (ps := [(0, _), (1, _), (2, _), (3, _), (5, _)]) rfl pl28 z28 rfl (.cons rfl (.cons rfl (.cons rfl (.cons rfl (.cons rfl .nil))))) (by kernel_rfl)) ?_
  refine sS ⟨28, 9, true, true, v4, [[int 6, int x8, int x11, int x14, int 0, int x63, int 0, int 0, .sc (.slice none 0 0)]]⟩ sh28 ?_
  refine tr tbk 1 (.mk ?_)
  obtain rfl := nxt_e h0
  refine wR hret (rC sh28 .nil) ?_
  exact (CvL.agg (.cons (.refl _) (.cons (.refl _) (.cons (.refl _) (.cons (.refl _) (.cons (.refl _) (.cons (.refl _) (.cons (.refl _) (.cons (.refl _) (.cons (.nil _) .nil))))))))))
  replace h0 := ct h0
  refine tc tbk 5 (.mk ?_)
  refine ni tbk h0 fun x64 h0 => ?_
  refine ni tbk h0 fun x65 h0 => ?_
  refine tr tbk 1 (.mk ?_)
  refine sY (yv_build (cs := [int 5, int 0, int 0, int 0, int 0, int x65, int x19, int x21, .sc (.slice none 0 0)]) (ps := [(0, _), (7, _), (5, _), (6, _)]) rfl pl28 z28 rfl (.cons rfl (.cons rfl (.cons rfl (.cons rfl .nil)))) (by kernel_rfl)) ?_
  refine sS ⟨28, 9, true, true, v4, [[int 5, int 0, int 0, int 0, int 0, int x65, int x19, int x21, .sc (.slice none 0 0)]]⟩ sh28 ?_
  refine tr tbk 1 (.mk ?_)
  obtain rfl := nxt_e h0
  refine wR hret (rC sh28 .nil) ?_
  exact (CvL.agg (.cons (.refl _) (.cons (.refl _) (.cons (.refl _) (.cons (.refl _) (.cons (.refl _) (.cons (.refl _) (.cons (.refl _) (.cons (.refl _) (.cons (.nil _) .nil))))))))))
  replace h0 := ct h0
  refine tc tbk 7 (.mk ?_)
  refine ni tbk h0 fun x66 h0 => ?_
  refine ni tbk h0 fun x67 h0 => ?_
  refine tr tbk 1 (.mk ?_)
  refine sY (yv_build (cs := [int 4, int x8, int x11, int x14, int 0, int x67, int x19, int 0, .sc (.slice none 0 0)]) (ps := [(0, _), (1, _), (2, _), (3, _), (5, _), (6, _)]) rfl pl28 z28 rfl (.cons rfl (.cons rfl (.cons rfl (.cons rfl (.cons rfl (.cons rfl .nil)))))) (by kernel_rfl)) ?_
  refine sS ⟨28, 9, true, true, v4, [[int 4, int x8, int x11, int x14, int 0, int x67, int x19, int 0, .sc (.slice none 0 0)]]⟩ sh28 ?_
  refine tr tbk 1 (.mk ?_)
  obtain rfl := nxt_e h0
  refine wR hret (rC sh28 .nil) ?_
  exact (CvL.agg (.cons (.refl _) (.cons (.refl _) (.cons (.refl _) (.cons (.refl _) (.cons (.refl _) (.cons (.refl _) (.cons (.refl _) (.cons (.refl _) (.cons (.nil _) .nil))))))))))
  replace h0 := ct h0
  refine tc tbk 5 (.mk ?_)
  refine ni tbk h0 fun x68 h0 => ?_
  refine ni tbk h0 fun x69 h0 => ?_
  refine sY (yv_build (cs := [int 3, int 0, int 0, int 0, int 0, int x69, int 0, int x21, .sc (.slice none 0 0)]) (ps := [(0, _), (7, _), (5, _)]) rfl pl28 z28 rfl (.cons rfl (.cons rfl (.cons rfl .nil))) (by kernel_rfl)) ?_
  refine sS ⟨28, 9, true, true, v4, [[int 3, int 0, int 0, int 0, int 0, int x69, int 0, int x21, .sc (.slice none 0 0)]]⟩ sh28 ?_
  refine tr tbk 1 (.mk ?_)
  obtain rfl := nxt_e h0
  refine wR hret (rC sh28 .nil) ?_
  exact (CvL.agg (.cons (.refl _) (.cons (.refl _) (.cons (.refl _) (.cons (.refl _) (.cons (.refl _) (.cons (.refl _) (.cons (.refl _) (.cons (.refl _) (.cons (.nil _) .nil))))))))))
  replace h0 := ct h0
  refine tc tbk 5 (.mk ?_)
  refine ni tbk h0 fun x70 h0 => ?_
  refine ni tbk h0 fun x71 h0 => ?_
  refine tr tbk 1 (.mk ?_)
  refine sY (yv_build (cs := [int 2, int 0, int 0, int 0, int 0, int x71, int x19, int x21, .sc (.slice none 0 0)]) (ps := [(0, _), (7, _), (5, _), (6, _)]) rfl pl28 z28 rfl (.cons rfl (.cons rfl (.cons rfl (.cons rfl .nil)))) (by kernel_rfl)) ?_
  refine sS ⟨28, 9, true, true, v4, [[int 2, int 0, int 0, int 0, int 0, int x71, int x19, int x21, .sc (.slice none 0 0)]]⟩ sh28 ?_
  refine tr tbk 1 (.mk ?_)
  obtain rfl := nxt_e h0
  refine wR hret (rC sh28 .nil) ?_
  exact (CvL.agg (.cons (.refl _) (.cons (.refl _) (.cons (.refl _) (.cons (.refl _) (.cons (.refl _) (.cons (.refl _) (.cons (.refl _) (.cons (.refl _) (.cons (.nil _) .nil))))))))))
  replace h0 := ct h0
  refine tc tbk 8 (.mk ?_)
  refine sY (yv_build (cs := [int 1, int x8, int x11, int x14, int 0, int x17, int x19, int 0, .sc (.slice none 0 0)]) (ps := [(0, _), (1, _), (2, _), (3, _), (5, _), (6, _)]) rfl pl28 z28 rfl (.cons rfl (.cons rfl (.cons rfl (.cons rfl (.cons rfl (.cons rfl .nil)))))) (by kernel_rfl)) ?_
  refine sS ⟨28, 9, true, true, v4, [[int 1, int x8, int x11, int x14, int 0, int x17, int x19, int 0, .sc (.slice none 0 0)]]⟩ sh28 ?_
  refine tr tbk 1 (.mk ?_)
  obtain rfl := nxt_e h0
  refine wR hret (rC sh28 .nil) ?_
  exact (CvL.agg (.cons (.refl _) (.cons (.refl _) (.cons (.refl _) (.cons (.refl _) (.cons (.refl _) (.cons (.refl _) (.cons (.refl _) (.cons (.refl _) (.cons (.nil _) .nil))))))))))
def d_law00_Odd (a1 : GOp) (a2 : Int) : Option (GOp) :=
(d_law00_Place a2 1073741824).bind fun x5 =>
bnd (w64 (x5.tdiv 16)) fun x6 =>
bnd (x6.tmod 12) fun x7 =>
(ix ([0, (-1), 1, 2, 5, 40, 1073741824, 1125899906842624, 1125899906842625, (-9223372036854775808), 9223372036854775807, 3] : List Int) x7).bind fun x8 =>
bnd (x5.tmod 16) fun x9 =>
bnd (decide (x9 = 0)) fun x10 =>
cond x10 (some (((⟨x8, a1.E, a1.Item, a1.Loc, a1.To, a1.Qty, a1.Amount, a1.Ref, a1.Refs⟩ : GOp) : GOp))) (bnd (decide (x9 = 1)) fun x11 =>
cond x11 (some (((⟨a1.Kind, x8, a1.Item, a1.Loc, a1.To, a1.Qty, a1.Amount, a1.Ref, a1.Refs⟩ : GOp) : GOp))) (bnd (decide (x9 = 2)) fun x12 =>
cond x12 (some (((⟨a1.Kind, a1.E, x8, a1.Loc, a1.To, a1.Qty, a1.Amount, a1.Ref, a1.Refs⟩ : GOp) : GOp))) (bnd (decide (x9 = 3)) fun x13 =>
cond x13 (some (((⟨a1.Kind, a1.E, a1.Item, x8, a1.To, a1.Qty, a1.Amount, a1.Ref, a1.Refs⟩ : GOp) : GOp))) (bnd (decide (x9 = 4)) fun x14 =>
cond x14 (some (((⟨a1.Kind, a1.E, a1.Item, a1.Loc, x8, a1.Qty, a1.Amount, a1.Ref, a1.Refs⟩ : GOp) : GOp))) (bnd (decide (x9 = 5)) fun x15 =>
cond x15 (some (((⟨a1.Kind, a1.E, a1.Item, a1.Loc, a1.To, x8, a1.Amount, a1.Ref, a1.Refs⟩ : GOp) : GOp))) (bnd (decide (x9 = 6)) fun x16 =>
cond x16 (some (((⟨a1.Kind, a1.E, a1.Item, a1.Loc, a1.To, a1.Qty, x8, a1.Ref, a1.Refs⟩ : GOp) : GOp))) (bnd (decide (x9 = 7)) fun x17 =>
cond x17 (some (((⟨a1.Kind, a1.E, a1.Item, a1.Loc, a1.To, a1.Qty, a1.Amount, x8, a1.Refs⟩ : GOp) : GOp))) (bnd (decide (x9 = 8)) fun x18 =>
cond x18 (asrt (a1.Refs.length ≤ 68719476736) <|
bnd (a1.Refs ++ ([x8] : List Int)) fun x21 =>
asrt (x21.length ≤ 68719476736) <|
some (((⟨a1.Kind, a1.E, a1.Item, a1.Loc, a1.To, a1.Qty, a1.Amount, a1.Ref, x21⟩ : GOp) : GOp))) (some ((a1 : GOp)))))))))))
theorem d_law00_Odd_c {a1 : GOp} {a2 : Int} {r : GOp} (h0 : d_law00_Odd a1 a2 = some r) : PP Try.prog 18 [.agg (GOp.av a1), int a2] (fun y => y = .agg (GOp.av r)) := by
  unfold d_law00_Odd at h0
  refine pp_of_pc (R0 := fun y H => Cv (frzH H) y (.agg (GOp.av r))) ?_ (fun y H hc => ⟨_, rfl, (fun (a : GOp) => PV.agg (GOp.pvc a)) r, hc⟩)
  refine pcw (c := _) Try.func18 rfl rfl ?_; intro Q hret hnorm
  refine tc tbk 2 (.mk ?_)
  refine sB 1 fun v3 => ?_
  refine sA 2 z28 fun v4 => ?_
  refine tr tbk 4 (.mk ?_)
  obtain ⟨x5, e5, h0⟩ := bind_e h0
  refine sC cal19 (d_law00_Place_c e5) ?_
  refine tr tbk 4 (.mk ?_)
  refine sY (yv_buildA (cs := [int 0, int (-1), int 1, int 2, int 5, int 40, int 1073741824, int 1125899906842624, int 1125899906842625, int (-9223372036854775808), int 9223372036854775807, int 3]) (ps := [(0, _), (1, _), (2, _), (3, _), (4, _), (5, _), (6, _), (7, _), (8, _), (9, _), (10, _), (11, _)]) rfl Try.underlying81 sh3 z81 rfl (.cons rfl (.cons rfl (.cons rfl (.cons rfl (.cons rfl (.cons rfl (.cons rfl (.cons rfl (.cons rfl (.cons rfl (.cons rfl (.cons rfl .nil)))))))))))) (by kernel_rfl)) ?_
  refine tr tbk 1 (.mk ?_)
  refine ni tbk h0 fun x6 h0 => ?_
  refine ni tbk h0 fun x7 h0 => ?_
  obtain ⟨x8, e8, h0⟩ := bind_e h0
  refine sY (yv_indexAT (g := fI) (l := ([0, (-1), 1, 2, 5, 40, 1073741824, 1125899906842624, 1125899906842625, (-9223372036854775808), 9223372036854775807, 3] : List Int)) (v := x8) (w := int x8) rfl Try.underlying81 sh3 rfl rfl rfl e8 (fun _ => rfl) hw1) ?_
  refine tr tbk 6 (.mk ?_)
  refine ni tbk h0 fun x9 h0 => ?_
  refine tr tbk 4 (.mk ?_)
  refine nb tbk h0 fun x10 h0 => ?_
  refine tr tbk 2 (.mk ?_)
  cases x10
  replace h0 := cf h0
  refine tc tbk 3 (.mk ?_)
  refine nb tbk h0 fun x11 h0 => ?_
  refine tr tbk 2 (.mk ?_)
  cases x11
  replace h0 := cf h0
  refine tc tbk 3 (.mk ?_)
  refine nb tbk h0 fun x12 h0 => ?_
  refine tr tbk 2 (.mk ?_)
  cases x12
  replace h0 := cf h0
  refine tc tbk 3 (.mk ?_)
  refine nb tbk h0 fun x13 h0 => ?_
  refine tr tbk 2 (.mk ?_)
  cases x13
  replace h0 := cf h0
  refine tc tbk 3 (.mk ?_)
  refine nb tbk h0 fun x14 h0 => ?_
  refine tr tbk 2 (.mk ?_)
  cases x14
  replace h0 := cf h0
  refine tc tbk 3 (.mk ?_)
  refine nb tbk h0 fun x15 h0 => ?_
  refine tr tbk 2 (.mk ?_)
  cases x15
  replace h0 := cf h0
  refine tc tbk 3 (.mk ?_)
  refine nb tbk h0 fun x16 h0 => ?_
  refine tr tbk 2 (.mk ?_)
  cases x16
  replace h0 := cf h0
  refine tc tbk 3 (.mk ?_)
  refine nb tbk h0 fun x17 h0 => ?_
  refine tr tbk 2 (.mk ?_)
  cases x17
  replace h0 := cf h0
  refine tc tbk 3 (.mk ?_)
  refine nb tbk h0 fun x18 h0 => ?_
  refine tr tbk 2 (.mk ?_)
  cases x18
  replace h0 := cf h0
  refine tc tbk 6 (.mk ?_)
  refine sS ⟨28, 9, true, true, v4, [[int a1.Kind, int a1.E, int a1.Item, int a1.Loc, int a1.To, int a1.Qty, int a1.Amount, int a1.Ref, lst 1 fI a1.Refs]]⟩ sh28 ?_
  refine tr tbk 1 (.mk ?_)
  obtain rfl := nxt_e h0
  refine wR hret (rC sh28 .nil) ?_
  exact .refl _
  replace h0 := ct h0
  refine tc tbk 4 (.mk ?_)
  obtain ⟨p19, h0⟩ := asrt_e h0
  refine rse rfl rfl rfl (yl_app0T (g := fI) (m := a1.Refs) 3 rfl Try.underlying26 bz3 by3 rfl rfl rfl rfl (.refl _) (fun _ => rfl) p19) ?_; rintro _ _ ⟨v20, rfl, rfl⟩
  refine tr tbk 1 (.mk ?_)
  refine sY (yv_to (y := lst 1 fI ([x8] : List Int)) (yv_buildSlice (ps := [(0, _)]) (rows := [[int x8]]) rfl Try.underlying26 bz3 (.cons rfl .nil) (by kernel_rfl) rfl rfl rfl) rfl) ?_
  obtain ⟨x21, e21, h0⟩ := bnd_e h0
  obtain ⟨p22, h0⟩ := asrt_e h0
  refine rse rfl rfl rfl (yl_appT (g := fI) (l := a1.Refs) (m := ([x8] : List Int)) .any rfl Try.underlying26 bz3 by3 rfl rfl rfl rfl rfl rfl rfl rfl rfl rfl (Eq.symm rfl) (.refl _) (fun _ => rfl) e21 p22) ?_; rintro _ _ ⟨v23, -, rfl, rfl⟩
  refine tr tbk 1 (.mk ?_)
  refine sS ⟨28, 9, true, true, v3, [[int a1.Kind, int a1.E, int a1.Item, int a1.Loc, int a1.To, int a1.Qty, int a1.Amount, int a1.Ref, .sl 3 v23 0 x21.length]]⟩ sh26 ?_
  refine tr tbk 5 (.mk ?_)
  refine sS ⟨28, 9, true, true, v4, [[int a1.Kind, int a1.E, int a1.Item, int a1.Loc, int a1.To, int a1.Qty, int a1.Amount, int a1.Ref, .sl 3 v23 0 x21.length]]⟩ sh28 ?_
  refine tr tbk 1 (.mk ?_)
  obtain rfl := nxt_e h0
  refine wR hret (rC sh28 .nil) ?_
  exact (CvL.agg (.cons (.refl _) (.cons (.refl _) (.cons (.refl _) (.cons (.refl _) (.cons (.refl _) (.cons (.refl _) (.cons (.refl _) (.cons (.refl _) (.cons (cv_lst rfl rfl rfl rfl rfl (Eq.symm rfl)) .nil))))))))))
  replace h0 := ct h0
  refine tc tbk 4 (.mk ?_)
  refine sS ⟨28, 9, true, true, v3, [[int a1.Kind, int a1.E, int a1.Item, int a1.Loc, int a1.To, int a1.Qty, int a1.Amount, int x8, lst 1 fI a1.Refs]]⟩ sh3 ?_
  refine tr tbk 5 (.mk ?_)
  refine sS ⟨28, 9, true, true, v4, [[int a1.Kind, int a1.E, int a1.Item, int a1.Loc, int a1.To, int a1.Qty, int a1.Amount, int x8, lst 1 fI a1.Refs]]⟩ sh28 ?_
  refine tr tbk 1 (.mk ?_)
  obtain rfl := nxt_e h0
  refine wR hret (rC sh28 .nil) ?_
  exact .refl _
  replace h0 := ct h0
  refine tc tbk 4 (.mk ?_)
  refine sS ⟨28, 9, true, true, v3, [[int a1.Kind, int a1.E, int a1.Item, int a1.Loc, int a1.To, int a1.Qty, int x8, int a1.Ref, lst 1 fI a1.Refs]]⟩ sh3 ?_
  refine tr tbk 5 (.mk ?_)
  refine sS ⟨28, 9, true, true, v4, [[int a1.Kind, int a1.E, int a1.Item, int a1.Loc, int a1.To, int a1.Qty, int x8, int a1.Ref, lst 1 fI a1.Refs]]⟩ sh28 ?_
  refine tr tbk 1 (.mk ?_)
  obtain rfl := nxt_e h0
  refine wR hret (rC sh28 .nil) ?_
  exact .refl _
  replace h0 := ct h0
  refine tc tbk 4 (.mk ?_)
  refine sS ⟨28, 9, true, true, v3, [[int a1.Kind, int a1.E, int a1.Item, int a1.Loc, int a1.To, int x8, int a1.Amount, int a1.Ref, lst 1 fI a1.Refs]]⟩ sh3 ?_
  refine tr tbk 5 (.mk ?_)
  refine sS ⟨28, 9, true, true, v4, [[int a1.Kind, int a1.E, int a1.Item, int a1.Loc, int a1.To, int x8, int a1.Amount, int a1.Ref, lst 1 fI a1.Refs]]⟩ sh28 ?_
  refine tr tbk 1 (.mk ?_)
  obtain rfl := nxt_e h0
  refine wR hret (rC sh28 .nil) ?_
  exact .refl _
  replace h0 := ct h0
  refine tc tbk 4 (.mk ?_)
  refine sS ⟨28, 9, true, true, v3, [[int a1.Kind, int a1.E, int a1.Item, int a1.Loc, int x8, int a1.Qty, int a1.Amount, int a1.Ref, lst 1 fI a1.Refs]]⟩ sh3 ?_
  refine tr tbk 5 (.mk ?_)
  refine sS ⟨28, 9, true, true, v4, [[int a1.Kind, int a1.E, int a1.Item, int a1.Loc, int x8, int a1.Qty, int a1.Amount, int a1.Ref, lst 1 fI a1.Refs]]⟩ sh28 ?_
  refine tr tbk 1 (.mk ?_)
  obtain rfl := nxt_e h0
  refine wR hret (rC sh28 .nil) ?_
  exact .refl _
  replace h0 := ct h0
  refine tc tbk 4 (.mk ?_)
  refine sS ⟨28, 9, true, true, v3, [[int a1.Kind, int a1.E, int a1.Item, int x8, int a1.To, int a1.Qty, int a1.Amount, int a1.Ref, lst 1 fI a1.Refs]]⟩ sh3 ?_
  refine tr tbk 5 (.mk ?_)
  refine sS ⟨28, 9, true, true, v4, [[int a1.Kind, int a1.E, int a1.Item, int x8, int a1.To, int a1.Qty, int a1.Amount, int a1.Ref, lst 1 fI a1.Refs]]⟩ sh28 ?_
  refine tr tbk 1 (.mk ?_)
  obtain rfl := nxt_e h0
  refine wR hret (rC sh28 .nil) ?_
  exact .refl _
  replace h0 := ct h0
  refine tc tbk 4 (.mk ?_)
  refine sS ⟨28, 9, true, true, v3, [[int a1.Kind, int a1.E, int x8, int a1.Loc, int a1.To, int a1.Qty, int a1.Amount, int a1.Ref, lst 1 fI a1.Refs]]⟩ sh3 ?_
  refine tr tbk 5 (.mk ?_)
  refine sS ⟨28, 9, true, true, v4, [[int a1.Kind, int a1.E, int x8, int a1.Loc, int a1.To, int a1.Qty, int a1.Amount, int a1.Ref, lst 1 fI a1.Refs]]⟩ sh28 ?_
  refine tr tbk 1 (.mk ?_)
  obtain rfl := nxt_e h0
  refine wR hret (rC sh28 .nil) ?_
  exact .refl _
  replace h0 := ct h0
  refine tc tbk 4 (.mk ?_)
  refine sS ⟨28, 9, true, true, v3, [[int a1.Kind, int x8, int a1.Item, int a1.Loc, int a1.To, int a1.Qty, int a1.Amount, int a1.Ref, lst 1 fI a1.Refs]]⟩ sh3 ?_
  refine tr tbk 5 (.mk ?_)
  refine sS ⟨28, 9, true, true, v4, [[int a1.Kind, int x8, int a1.Item, int a1.Loc, int a1.To, int a1.Qty, int a1.Amount, int a1.Ref, lst 1 fI a1.Refs]]⟩ sh28 ?_
  refine tr tbk 1 (.mk ?_)
  obtain rfl := nxt_e h0
  refine wR hret (rC sh28 .nil) ?_
  exact .refl _
  replace h0 := ct h0
  refine tc tbk 4 (.mk ?_)
  refine sS ⟨28, 9, true, true, v3, [[int x8, int a1.E, int a1.Item, int a1.Loc, int a1.To, int a1.Qty, int a1.Amount, int a1.Ref, lst 1 fI a1.Refs]]⟩ sh3 ?_
  refine tr tbk 5 (.mk ?_)
  refine sS ⟨28, 9, true, true, v4, [[int x8, int a1.E, int a1.Item, int a1.Loc, int a1.To, int a1.Qty, int a1.Amount, int a1.Ref, lst 1 fI a1.Refs]]⟩ sh28 ?_
  refine tr tbk 1 (.mk ?_)
  obtain rfl := nxt_e h0
  refine wR hret (rC sh28 .nil) ?_
  exact .refl _
def d_law05_OpsBack_L0 (a2 : List Int) (a3 : List Int) (x5 : GMaster) : Nat → Int → (List GOp) → Option ((List GOp))
  | 0, _, _ => none
  | n + 1, y0_2, y0_3 =>
    (show Option (Bool) from
    bnd (decide (y0_2 < (a2.length : Int))) fun x10 =>
    cond x10 (bnd (decide (y0_2 < 40)) fun x11 =>
    some (x11 : Bool)) (some (false : Bool))).bind <| fun y1_1 =>
    cond y1_1 ((show Option ((List GOp)) from
    (ix a2 y0_2).bind fun x13 =>
    (d_law00_Op x5 x13).bind fun x14 =>
    bnd (decide (y0_2 < (a3.length : Int))) fun x16 =>
    (show Option (GOp) from
    cond x16 ((ix a3 y0_2).bind fun x18 =>
    (d_law00_Odd x14 x18).bind fun x19 =>
    some (x19 : GOp)) (some (x14 : GOp))).bind <| fun y2_1 =>
    (d_ops_Check n y2_1).bind fun x20 =>
    (d_ref05_Check n y2_1).bind fun x21 =>
    bnd (decide (x20 ≠ x21)) fun x22 =>
    asrt (x22 = false) <|
    (d_ops_Check n y2_1).bind fun x23 =>
    cond x23 (bnd (y0_3 ++ ([y2_1] : List GOp)) fun x24 =>
    asrt (x24.length ≤ 68719476736) <|
    some (x24 : List GOp)) (some (y0_3 : List GOp))).bind <| fun y3_2 =>
    bnd (w64 (y0_2 + 1)) fun x27 =>
    d_law05_OpsBack_L0 a2 a3 x5 n (x27 : Int) (y3_2 : List GOp)) (some (y0_3 : List GOp))
def d_law05_OpsBack (n : Nat) (a1 : Int) (a2 : List Int) (a3 : List Int) (a4 : Int) : Option (Bool) :=
(d_law00_Master n a1).bind fun x5 =>
(show Option ((List GOp)) from
d_law05_OpsBack_L0 a2 a3 x5 n (0 : Int) (([] : List GOp) : List GOp)).bind <| fun y4_2 =>
(d_ops_Bytes n y4_2).bind fun x28 =>
(d_ops_Read n x28).bind fun x29 =>
(show Option (Bool) from
bnd (decide (x28 = ([] : List UInt8))) fun x31 =>
cond x31 (some (true : Bool)) ((d_ref05_Bytes n y4_2).bind fun x32 =>
bnd (decide (x28 ≠ x32)) fun x33 =>
cond x33 (some (true : Bool)) (bnd (decide (x29.2 ≠ 0)) fun x34 =>
cond x34 (some (true : Bool)) ((d_ref05_Same n x29.1 y4_2).bind fun x35 =>
bnd (!x35) fun x36 =>
some (x36 : Bool))))).bind <| fun y5_1 =>
asrt (y5_1 = false) <|
(d_law00_Place a4 (x28.length : Int)).bind fun x37 =>
asrt ((0 : Int) ≤ 0 ∧ 0 ≤ x37 ∧ x37 ≤ (x28.length : Int)) <|
bnd ((x28.take x37.toNat).drop 0) fun x39 =>
(d_ops_Read n x39).bind fun x40 =>
asrt (x28.length + ([120] : List UInt8).length ≤ 9223372036854775807) <|
bnd (x28 ++ ([120] : List UInt8)) fun x42 =>
(d_ops_Read n x42).bind fun x43 =>
(show Option (Bool) from
bnd (decide (x40.2 = 3)) fun x45 =>
cond x45 (bnd (decide (x43.2 = 3)) fun x46 =>
cond x46 ((d_law05_awake n).bind fun x47 =>
some (x47 : Bool)) (some (false : Bool))) (some (false : Bool))).bind <| fun y6_1 =>
some ((y6_1 : Bool))
theorem d_law05_OpsBack_c {n : Nat} {a1 : Int} {a2 : List Int} {a3 : List Int} {a4 : Int} {r : Bool} (h0 : d_law05_OpsBack n a1 a2 a3 a4 = some r) : PP Try.prog 4 [int a1, lst 1 fI a2, lst 1 fI a3, int a4] (fun y => y = boo r) := by
  unfold d_law05_OpsBack at h0
  refine pp_of_pc (R0 := fun y H => Cv (frzH H) y (boo r)) ?_ (fun y H hc => ⟨_, rfl, pvB r, hc⟩)
  refine pcw (c := _) Try.func4 rfl rfl ?_; intro Q hret hnorm
  refine tc tbk 7 (.mk ?_)
  obtain ⟨x5, e5, h0⟩ := bind_e h0
  refine sC cal16 (d_law00_Master_c e5) ?_
  refine sA 1 z37 fun v6 => ?_
  refine sS ⟨37, 5, true, true, v6, [[int x5.Entities, int x5.Periods, lst 1 fI x5.Weights, lst 1 (fL 1 fI) x5.Methods, lst 1 (fL 1 fI) x5.Costs]]⟩ sh37 ?_
  refine tr tbk 10 (.mk ?_)
  refine jn h0 [3, 8] [] (fun (a : (List GOp)) (k : Nat) => [(10, .sl 4 k 0 a.length)]) (fun a k => [(4, ⟨28, 9, true, true, k, a.map GOp.av⟩)]) ⟨fun j7 h1 => ?_, ?_⟩
  refine tc tbk 1 (.mk ?_)
  refine c_nilobj 10 4 28 9 rfl rfl ?_; intro v8
  refine lp (fun n (a : Int × (List GOp)) => d_law05_OpsBack_L0 a2 a3 x5 n a.1 a.2) ((0 : Int), (([] : List GOp) : List GOp)) v8 h1 [1, 2, 3, 8, 9] [1] (fun (a : Int × (List GOp)) (k : Nat) => [(10, .sl 4 k 0 a.2.length), (11, int a.1)]) (fun a k => [(4, ⟨28, 9, true, true, k, a.2.map GOp.av⟩)]) (fun _ => rfl) ⟨leA, ?_⟩
  rintro n ⟨y0_2, y0_3⟩ w0_1 hm h1
  replace h1 : d_law05_OpsBack_L0 a2 a3 x5 (n + 1) y0_2 y0_3 = some _ := h1
  rw [d_law05_OpsBack_L0] at h1
  refine tc tbk 2 (.mk ?_)
  refine jn h1 [1, 2, 3, 8, 9, 10, 11] [1, 4] (fun (a : Bool) (k : Unit) => [(29, boo a)]) (fun a k => []) ⟨fun j9 h2 => ?_, ?_⟩
  refine tc tbk 3 (.mk ?_)
  refine sY (yv_len_sl rfl Try.underlying26 rfl (lst_len _)) ?_
  refine nb tbk h2 fun x10 h2 => ?_
  refine tr tbk 1 (.mk ?_)
  cases x10
  replace h2 := cf h2
  refine tr tbk 4 (.mk ?_)
  exact lf h2 () leA
  replace h2 := ct h2
  refine tr tbk 1 (.mk ?_)
  refine nb tbk h2 fun x11 h2 => ?_
  refine tr tbk 2 (.mk ?_)
  exact lf h2 () leA
  rintro y1_1 _ h1
  cases y1_1
  replace h1 := cf h1
  refine tc tbk 2 (.mk ?_)
  exact lf h1 w0_1 leA
  replace h1 := ct h1
  refine tc tbk 3 (.mk ?_)
  refine jn h1 [1, 2, 3, 8, 9, 11] [1] (fun (a : (List GOp)) (k : Nat) => [(10, .sl 4 k 0 a.length)]) (fun a k => [(4, ⟨28, 9, true, true, k, a.map GOp.av⟩)]) ⟨fun j12 h2 => ?_, ?_⟩
  refine tc tbk 2 (.mk ?_)
  refine c_drawE [0, 0, 0, 6, 14, 31, 0, 127] (rl [(0, [1])] []) (rl [(7, [])] [1]) (rl [(6, false), (7, false)] true) [0, 1, 2, 3, 4, 5, 6, 7] mixed (by kernel_rfl) ?_; intro K hK
  refine eL sh37 ?_
  iterate 2 refine eM ?_
  obtain ⟨x13, e13, h2⟩ := bind_e h2
  refine eP (fun H hH => yv_ixT rfl Try.underlying26 sh3 rfl rfl e13) ?_
  refine eP (fun H hH => yv_load rfl sh3 rfl (.pp _) rfl) ?_
  obtain ⟨x14, e14, h2⟩ := bind_e h2
  refine eP (fun H hH => yv_callP rfl rfl (.cons rfl (.cons rfl .nil)) cal17 (CvL.refl _) (d_law00_Op_c e14)) ?_
  refine de_eff rfl rfl rfl rfl (yl_alloc 2 .any rfl z28 rfl) (by rintro _ _ ⟨v15, -, rfl, rfl⟩; exact ⟨rfl, trivial⟩) ?_; rintro _ _ ⟨v15, -, rfl, rfl⟩
  refine de_eff0 rfl rfl rfl rfl (Yield.weak (yl_ob (ob' := (⟨28, 9, true, true, v15, [[int x14.Kind, int x14.E, int x14.Item, int x14.Loc, int x14.To, int x14.Qty, int x14.Amount, int x14.Ref, lst 1 fI x14.Refs]]⟩ : AObj)) (yl_store rfl sh28 rfl rfl rfl rfl rfl rfl rfl rfl rfl) rfl) (fun _ h => h) (fun _ _ => trivial)) (by rintro _ _ ⟨rfl, rfl⟩; exact trivial) ?_; rintro _ _ ⟨rfl, rfl⟩
  refine de_nil (hK _ ?_)
  refine tc tbk 5 (.mk ?_)
  refine sY (yv_len_sl rfl Try.underlying26 rfl (lst_len _)) ?_
  refine nb tbk h2 fun x16 h2 => ?_
  refine tr tbk 1 (.mk ?_)
  refine jn h2 [1, 2, 3, 8, 9, 10, 11, 12] [1, 4] (fun (a : GOp) (k : Unit) => []) (fun a k => [(2, ⟨28, 9, true, true, v15, [[int a.Kind, int a.E, int a.Item, int a.Loc, int a.To, int a.Qty, int a.Amount, int a.Ref, lst 1 fI a.Refs]]⟩)]) ⟨fun j17 h3 => ?_, ?_⟩
  cases x16
  replace h3 := cf h3
  refine tc tbk 2 (.mk ?_)
  exact lf h3 () leA
  replace h3 := ct h3
  refine tc tbk 1 (.mk ?_)
  refine c_drawE [0, 0, 0, 6, 14, 31, 63] (rl [(0, [2])] []) (rl [(6, [])] [2]) (rl [(6, false)] true) [0, 1, 2, 3, 4, 5, 6] mixed (by kernel_rfl) ?_; intro K hK
  refine eL sh28 ?_
  iterate 2 refine eM ?_
  obtain ⟨x18, e18, h3⟩ := bind_e h3
  refine eP (fun H hH => yv_ixT rfl Try.underlying26 sh3 rfl rfl e18) ?_
  refine eP (fun H hH => yv_load rfl sh3 rfl (.pp _) rfl) ?_
  obtain ⟨x19, e19, h3⟩ := bind_e h3
  refine eP (fun H hH => yv_callP rfl rfl (.cons rfl (.cons rfl .nil)) cal18 (CvL.refl _) (d_law00_Odd_c e19)) ?_
  refine de_eff0 rfl rfl rfl rfl (Yield.weak (yl_ob (ob' := (⟨28, 9, true, true, v15, [[int x19.Kind, int x19.E, int x19.Item, int x19.Loc, int x19.To, int x19.Qty, int x19.Amount, int x19.Ref, lst 1 fI x19.Refs]]⟩ : AObj)) (yl_store rfl sh28 rfl rfl rfl rfl rfl rfl rfl rfl rfl) rfl) (fun _ h => h) (fun _ _ => trivial)) (by rintro _ _ ⟨rfl, rfl⟩; exact trivial) ?_; rintro _ _ ⟨rfl, rfl⟩
  refine de_nil (hK _ ?_)
  exact lf h3 () leA
  rintro y2_1 _ h2
  refine tc tbk 2 (.mk ?_)
  refine c_drawE [0, 1, 0, 7, 15] (rl [(0, [2]), (2, [2])] []) (fun i => [2]) (fun i => true) [0, 1, 2, 3, 4] mixed (by kernel_rfl) ?_; intro K hK
  refine eL sh28 ?_
  obtain ⟨x20, e20, h2⟩ := bind_e h2
  refine eP (fun H hH => yv_callP rfl rfl (.cons rfl .nil) cal8 (CvL.refl _) (d_ops_Check_c e20)) ?_
  refine eL sh28 ?_
  obtain ⟨x21, e21, h2⟩ := bind_e h2
  refine eP (fun H hH => yv_callP rfl rfl (.cons rfl .nil) cal9 (CvL.refl _) (d_ref05_Check_c e21)) ?_
  obtain ⟨x22, e22, h2⟩ := bnd_e h2
  refine eP (fun H hH => yv_to (y := boo x22) (yv_bneq rfl Try.underlying4 rfl rfl) (congrArg boo e22)) ?_
  refine de_nil (hK _ ?_)
  replace h2 := asrt_e h2
  obtain ⟨rfl, h2⟩ := h2
  refine tc tbk 5 (.mk ?_)
  obtain ⟨x23, e23, h2⟩ := bind_e h2
  refine sC cal8 (d_ops_Check_c e23) ?_
  refine tr tbk 1 (.mk ?_)
  cases x23
  replace h2 := cf h2
  refine tc tbk 3 (.mk ?_)
  exact lf h2 w0_1 leA
  replace h2 := ct h2
  refine tc tbk 4 (.mk ?_)
  refine sY (yv_to (y := lst 9 GOp.av ([y2_1] : List GOp)) (yv_buildSlice (ps := [(0, _)]) (rows := [[int y2_1.Kind, int y2_1.E, int y2_1.Item, int y2_1.Loc, int y2_1.To, int y2_1.Qty, int y2_1.Amount, int y2_1.Ref, lst 1 fI y2_1.Refs]]) rfl Try.underlying22 bz28 (.cons rfl .nil) (by kernel_rfl) rfl rfl rfl) rfl) ?_
  obtain ⟨x24, e24, h2⟩ := bnd_e h2
  obtain ⟨p25, h2⟩ := asrt_e h2
  refine rse rfl rfl rfl (yl_appT (g := GOp.av) (l := y0_3) (m := ([y2_1] : List GOp)) .any rfl Try.underlying22 bz28 by28 rfl rfl rfl rfl rfl rfl rfl rfl rfl rfl (Eq.symm rfl) (.refl _) (fun _ => rfl) e24 p25) ?_; rintro _ _ ⟨v26, -, rfl, rfl⟩
  refine tr tbk 3 (.mk ?_)
  exact lf h2 v26 leA
  rintro y3_2 w3_1 h1
  refine tc tbk 2 (.mk ?_)
  refine ni tbk h1 fun x27 h1 => ?_
  refine tr tbk 2 (.mk ?_)
  exact bk (x27, y3_2) w3_1 h1 leA
  rintro y4_2 w4_1 h0
  refine tc tbk 3 (.mk ?_)
  obtain ⟨x28, e28, h0⟩ := bind_e h0
  refine sY (yv_callT (v := str x28) rfl rfl (.cons rfl .nil) cal14 (.cons (cv_lst rfl rfl rfl rfl rfl (Eq.symm rfl)) .nil) (d_ops_Bytes_c e28) rfl) ?_
  refine tr tbk 5 (.mk ?_)
  obtain ⟨x29, e29, h0⟩ := bind_e h0
  refine sC cal10 (d_ops_Read_c e29) ?_
  refine tr tbk 8 (.mk ?_)
  refine jn h0 [3, 8, 13] [] (fun (a : Bool) (k : Unit) => [(83, boo a)]) (fun a k => []) ⟨fun j30 h1 => ?_, ?_⟩
  refine tc tbk 2 (.mk ?_)
  obtain ⟨x31, e31, h1⟩ := bnd_e h1
  refine sY (yv_to (y := boo x31) (yv_seql rfl rfl rfl) (congrArg boo e31)) ?_
  refine tr tbk 1 (.mk ?_)
  cases x31
  replace h1 := cf h1
  refine tr tbk 2 (.mk ?_)
  obtain ⟨x32, e32, h1⟩ := bind_e h1
  refine sY (yv_callT (v := str x32) rfl rfl (.cons rfl .nil) cal15 (.cons (cv_lst rfl rfl rfl rfl rfl (Eq.symm rfl)) .nil) (d_ref05_Bytes_c e32) rfl) ?_
  obtain ⟨x33, e33, h1⟩ := bnd_e h1
  refine sY (yv_to (y := boo x33) (yv_sneq rfl rfl rfl) (congrArg boo e33)) ?_
  refine tr tbk 2 (.mk ?_)
  cases x33
  replace h1 := cf h1
  refine tr tbk 1 (.mk ?_)
  refine nb tbk h1 fun x34 h1 => ?_
  refine tr tbk 2 (.mk ?_)
  cases x34
  replace h1 := cf h1
  refine tr tbk 2 (.mk ?_)
  obtain ⟨x35, e35, h1⟩ := bind_e h1
  refine sY (yv_callT (v := boo x35) rfl rfl (.cons rfl (.cons rfl .nil)) cal13 (.cons (.refl _) (.cons (cv_lst rfl rfl rfl rfl rfl (Eq.symm rfl)) .nil)) (d_ref05_Same_c e35) rfl) ?_
  refine nb tbk h1 fun x36 h1 => ?_
  refine tr tbk 2 (.mk ?_)
  exact lf h1 () leA
  replace h1 := ct h1
  refine tr tbk 6 (.mk ?_)
  exact lf h1 () leA
  replace h1 := ct h1
  refine tr tbk 10 (.mk ?_)
  exact lf h1 () leA
  replace h1 := ct h1
  refine tr tbk 16 (.mk ?_)
  exact lf h1 () leA
  rintro y5_1 _ h0
  replace h0 := asrt_e h0
  obtain ⟨rfl, h0⟩ := h0
  refine tc tbk 7 (.mk ?_)
  refine sY (yv_len_str rfl Try.underlying9 rfl) ?_
  obtain ⟨x37, e37, h0⟩ := bind_e h0
  refine sC cal19 (d_law00_Place_c e37) ?_
  obtain ⟨p38, h0⟩ := asrt_e h0
  obtain ⟨x39, e39, h0⟩ := bnd_e h0
  refine sY (yv_to (y := str x39) (yv_slice_str (i := 0) (j := x37.toNat) rfl Try.underlying9 rfl .no (.yes rfl (by omega)) (by omega) (by omega)) (congrArg str e39)) ?_
  obtain ⟨x40, e40, h0⟩ := bind_e h0
  refine sC cal10 (d_ops_Read_c e40) ?_
  refine tr tbk 9 (.mk ?_)
  obtain ⟨p41, h0⟩ := asrt_e h0
  obtain ⟨x42, e42, h0⟩ := bnd_e h0
  refine sY (yv_to (y := str x42) (yv_sadd rfl rfl rfl p41) (congrArg str e42)) ?_
  obtain ⟨x43, e43, h0⟩ := bind_e h0
  refine sC cal10 (d_ops_Read_c e43) ?_
  refine tr tbk 7 (.mk ?_)
  refine jn h0 [] [] (fun (a : Bool) (k : Unit) => [(8, boo a)]) (fun a k => []) ⟨fun j44 h1 => ?_, ?_⟩
  refine tc tbk 2 (.mk ?_)
  refine nb tbk h1 fun x45 h1 => ?_
  refine tr tbk 1 (.mk ?_)
  cases x45
  replace h1 := cf h1
  refine tr tbk 8 (.mk ?_)
  exact lf h1 () leA
  replace h1 := ct h1
  refine tr tbk 1 (.mk ?_)
  refine nb tbk h1 fun x46 h1 => ?_
  refine tr tbk 2 (.mk ?_)
  cases x46
  replace h1 := cf h1
  refine tr tbk 4 (.mk ?_)
  exact lf h1 () leA
  replace h1 := ct h1
  obtain ⟨x47, e47, h1⟩ := bind_e h1
  refine sC cal7 (d_law05_awake_c e47) ?_
  refine tr tbk 3 (.mk ?_)
  exact lf h1 () leA
  rintro y6_1 _ h0
  obtain rfl := nxt_e h0
  refine wR hret (rT .nil) ?_
  exact .refl _
end Go.Pv
