import Derived.Test.YtpbcnilkippahaaGreatK52b
set_option linter.unusedVariables false
namespace Go.Pv
open Go.Proofs
set_option maxRecDepth 10000
set_option maxHeartbeats 1000000
def d_law15_ReceiveErrors (n : Nat) (a1 : Int) (a2 : Int) : Option (Bool) :=
(d_law00_Place a2 20).bind fun x3 =>
bnd (w64 (1 + x3)) fun x4 =>
(show Option (((List (List Int)) × (List (List Int)) × (List GPool) × (List Int) × (List GRoll) × (List Int) × (List Int) × (List GPool) × (List Int) × (List GRoll) × (List Int) × (List Int))) from
(show Option ((List (List Int)) × (List (List Int))) from
asrt (([([1, 2, 3, 4] : List Int)] : List (List Int)).length ≤ 68719476736) <|
asrt (([([10, 10, 10, 10] : List Int)] : List (List Int)).length ≤ 68719476736) <|
bnd (([([1, 2, 3, 4] : List Int)] : List (List Int)) ++ ([([1, 2, 3, 4] : List Int)] : List (List Int))) fun x13 =>
asrt (x13.length ≤ 68719476736) <|
bnd (([([10, 10, 10, 10] : List Int)] : List (List Int)) ++ ([([10, 10, 10, 10] : List Int)] : List (List Int))) fun x16 =>
asrt (x16.length ≤ 68719476736) <|
some ((x13 : List (List Int)), (x16 : List (List Int)))).bind <| p2 fun (y0_3 : List (List Int)) (y0_4 : List (List Int)) =>
(show Option (((List GPool) × (List Int) × (List GRoll) × (List Int) × (List Int) × (List GPool) × (List Int) × (List GRoll) × (List Int) × (List Int))) from
(d_ref04_Check n (⟨2, 3, ([1, 2, 3, 0] : List Int), y0_3, y0_4⟩ : GMaster)).bind fun x22 =>
bnd (!x22) fun x23 =>
asrt (x23 = false) <|
(show Option ((List GPool) × (List Int) × (List GRoll) × (List Int) × (List Int) × (List GPool) × (List Int) × (List GRoll) × (List Int) × (List Int)) from
(show Option ((List GPool) × (List Int) × (List GRoll) × (List Int) × (List Int)) from
asrt ((0 : Int) ≤ 8 ∧ (8 : Int) ≤ 1048576) <|
bnd (List.replicate (Int.toNat 8) ((⟨[], (⟨0, 0, 0⟩ : A3_Int)⟩ : GPool) : GPool)) fun x28 =>
asrt ((0 : Int) ≤ 17 ∧ (17 : Int) ≤ 1048576) <|
bnd (List.replicate (Int.toNat 17) (0 : Int)) fun x31 =>
asrt ((0 : Int) ≤ 4 ∧ (4 : Int) ≤ 1048576) <|
bnd (List.replicate (Int.toNat 4) ((⟨0, 0, 0, 0, 0, 0, 0, 0, 0, 0, 0⟩ : GRoll) : GRoll)) fun x34 =>
asrt ((0 : Int) ≤ 4 ∧ (4 : Int) ≤ 1048576) <|
bnd (List.replicate (Int.toNat 4) (0 : Int)) fun x37 =>
asrt ((0 : Int) ≤ 4 ∧ (4 : Int) ≤ 1048576) <|
bnd (List.replicate (Int.toNat 4) (0 : Int)) fun x40 =>
(show Option ((List Int)) from
(ix x37 0).bind fun x44 =>
bnd (x37.set (Int.toNat 0) ((-1) : Int)) fun x45 =>
(ix x45 1).bind fun x46 =>
bnd (x45.set (Int.toNat 1) ((-1) : Int)) fun x47 =>
(ix x47 2).bind fun x48 =>
bnd (x47.set (Int.toNat 2) ((-1) : Int)) fun x49 =>
(ix x49 3).bind fun x50 =>
bnd (x49.set (Int.toNat 3) ((-1) : Int)) fun x51 =>
some (x51 : List Int)).bind <| fun y1_1 =>
some ((x28 : List GPool), (x31 : List Int), (x34 : List GRoll), (y1_1 : List Int), (x40 : List Int))).bind <| p2 fun (y2_7 : List GPool) (q0 : (List Int) × (List GRoll) × (List Int) × (List Int)) => (p2 fun (y2_8 : List Int) (q1 : (List GRoll) × (List Int) × (List Int)) => (p2 fun (y2_9 : List GRoll) (q2 : (List Int) × (List Int)) => (p2 fun (y2_10 : List Int) (y2_11 : List Int) =>
(show Option ((List GPool) × (List Int) × (List GRoll) × (List Int) × (List Int)) from
asrt ((0 : Int) ≤ 8 ∧ (8 : Int) ≤ 1048576) <|
bnd (List.replicate (Int.toNat 8) ((⟨[], (⟨0, 0, 0⟩ : A3_Int)⟩ : GPool) : GPool)) fun x55 =>
asrt ((0 : Int) ≤ 17 ∧ (17 : Int) ≤ 1048576) <|
bnd (List.replicate (Int.toNat 17) (0 : Int)) fun x58 =>
asrt ((0 : Int) ≤ 4 ∧ (4 : Int) ≤ 1048576) <|
bnd (List.replicate (Int.toNat 4) ((⟨0, 0, 0, 0, 0, 0, 0, 0, 0, 0, 0⟩ : GRoll) : GRoll)) fun x61 =>
asrt ((0 : Int) ≤ 4 ∧ (4 : Int) ≤ 1048576) <|
bnd (List.replicate (Int.toNat 4) (0 : Int)) fun x64 =>
asrt ((0 : Int) ≤ 4 ∧ (4 : Int) ≤ 1048576) <|
bnd (List.replicate (Int.toNat 4) (0 : Int)) fun x67 =>
(show Option ((List Int)) from
(ix x64 0).bind fun x71 =>
bnd (x64.set (Int.toNat 0) ((-1) : Int)) fun x72 =>
(ix x72 1).bind fun x73 =>
bnd (x72.set (Int.toNat 1) ((-1) : Int)) fun x74 =>
(ix x74 2).bind fun x75 =>
bnd (x74.set (Int.toNat 2) ((-1) : Int)) fun x76 =>
(ix x76 3).bind fun x77 =>
bnd (x76.set (Int.toNat 3) ((-1) : Int)) fun x78 =>
some (x78 : List Int)).bind <| fun y1_1 =>
some ((x55 : List GPool), (x58 : List Int), (x61 : List GRoll), (y1_1 : List Int), (x67 : List Int))).bind <| p2 fun (y2_7_1 : List GPool) (q0 : (List Int) × (List GRoll) × (List Int) × (List Int)) => (p2 fun (y2_8_1 : List Int) (q1 : (List GRoll) × (List Int) × (List Int)) => (p2 fun (y2_9_1 : List GRoll) (q2 : (List Int) × (List Int)) => (p2 fun (y2_10_1 : List Int) (y2_11_1 : List Int) =>
some ((y2_7 : List GPool), (y2_8 : List Int), (y2_9 : List GRoll), (y2_10 : List Int), (y2_11 : List Int), (y2_7_1 : List GPool), (y2_8_1 : List Int), (y2_9_1 : List GRoll), (y2_10_1 : List Int), (y2_11_1 : List Int))) q2) q1) q0) q2) q1) q0).bind <| p2 fun (y3_12 : List GPool) (q0 : (List Int) × (List GRoll) × (List Int) × (List Int) × (List GPool) × (List Int) × (List GRoll) × (List Int) × (List Int)) => (p2 fun (y3_13 : List Int) (q1 : (List GRoll) × (List Int) × (List Int) × (List GPool) × (List Int) × (List GRoll) × (List Int) × (List Int)) => (p2 fun (y3_14 : List GRoll) (q2 : (List Int) × (List Int) × (List GPool) × (List Int) × (List GRoll) × (List Int) × (List Int)) => (p2 fun (y3_15 : List Int) (q3 : (List Int) × (List GPool) × (List Int) × (List GRoll) × (List Int) × (List Int)) => (p2 fun (y3_16 : List Int) (q4 : (List GPool) × (List Int) × (List GRoll) × (List Int) × (List Int)) => (p2 fun (y3_17 : List GPool) (q5 : (List Int) × (List GRoll) × (List Int) × (List Int)) => (p2 fun (y3_18 : List Int) (q6 : (List GRoll) × (List Int) × (List Int)) => (p2 fun (y3_19 : List GRoll) (q7 : (List Int) × (List Int)) => (p2 fun (y3_20 : List Int) (y3_21 : List Int) =>
some ((y3_12 : List GPool), (y3_13 : List Int), (y3_14 : List GRoll), (y3_15 : List Int), (y3_16 : List Int), (y3_17 : List GPool), (y3_18 : List Int), (y3_19 : List GRoll), (y3_20 : List Int), (y3_21 : List Int))) q7) q6) q5) q4) q3) q2) q1) q0).bind <| p2 fun (y4_12 : List GPool) (q0 : (List Int) × (List GRoll) × (List Int) × (List Int) × (List GPool) × (List Int) × (List GRoll) × (List Int) × (List Int)) => (p2 fun (y4_13 : List Int) (q1 : (List GRoll) × (List Int) × (List Int) × (List GPool) × (List Int) × (List GRoll) × (List Int) × (List Int)) => (p2 fun (y4_14 : List GRoll) (q2 : (List Int) × (List Int) × (List GPool) × (List Int) × (List GRoll) × (List Int) × (List Int)) => (p2 fun (y4_15 : List Int) (q3 : (List Int) × (List GPool) × (List Int) × (List GRoll) × (List Int) × (List Int)) => (p2 fun (y4_16 : List Int) (q4 : (List GPool) × (List Int) × (List GRoll) × (List Int) × (List Int)) => (p2 fun (y4_17 : List GPool) (q5 : (List Int) × (List GRoll) × (List Int) × (List Int)) => (p2 fun (y4_18 : List Int) (q6 : (List GRoll) × (List Int) × (List Int)) => (p2 fun (y4_19 : List GRoll) (q7 : (List Int) × (List Int)) => (p2 fun (y4_20 : List Int) (y4_21 : List Int) =>
some ((y0_3 : List (List Int)), (y0_4 : List (List Int)), (y4_12 : List GPool), (y4_13 : List Int), (y4_14 : List GRoll), (y4_15 : List Int), (y4_16 : List Int), (y4_17 : List GPool), (y4_18 : List Int), (y4_19 : List GRoll), (y4_20 : List Int), (y4_21 : List Int))) q7) q6) q5) q4) q3) q2) q1) q0).bind <| p2 fun (y5_4 : List (List Int)) (q0 : (List (List Int)) × (List GPool) × (List Int) × (List GRoll) × (List Int) × (List Int) × (List GPool) × (List Int) × (List GRoll) × (List Int) × (List Int)) => (p2 fun (y5_5 : List (List Int)) (q1 : (List GPool) × (List Int) × (List GRoll) × (List Int) × (List Int) × (List GPool) × (List Int) × (List GRoll) × (List Int) × (List Int)) => (p2 fun (y5_16 : List GPool) (q2 : (List Int) × (List GRoll) × (List Int) × (List Int) × (List GPool) × (List Int) × (List GRoll) × (List Int) × (List Int)) => (p2 fun (y5_17 : List Int) (q3 : (List GRoll) × (List Int) × (List Int) × (List GPool) × (List Int) × (List GRoll) × (List Int) × (List Int)) => (p2 fun (y5_18 : List GRoll) (q4 : (List Int) × (List Int) × (List GPool) × (List Int) × (List GRoll) × (List Int) × (List Int)) => (p2 fun (y5_19 : List Int) (q5 : (List Int) × (List GPool) × (List Int) × (List GRoll) × (List Int) × (List Int)) => (p2 fun (y5_20 : List Int) (q6 : (List GPool) × (List Int) × (List GRoll) × (List Int) × (List Int)) => (p2 fun (y5_21 : List GPool) (q7 : (List Int) × (List GRoll) × (List Int) × (List Int)) => (p2 fun (y5_22 : List Int) (q8 : (List GRoll) × (List Int) × (List Int)) => (p2 fun (y5_23 : List GRoll) (q9 : (List Int) × (List Int)) => (p2 fun (y5_24 : List Int) (y5_25 : List Int) =>
(d_law00_Place a1 5).bind fun x83 =>
bnd (decide (x83 = 1)) fun x84 =>
cond x84 ((d_receive_Do n (⟨(⟨2, 3, ([1, 2, 3, 0] : List Int), y5_4, y5_5⟩ : GMaster), ([(⟨1, false, y5_16, y5_17, y5_18, y5_19, y5_20, []⟩ : GEnt), (⟨1, false, y5_21, y5_22, y5_23, y5_24, y5_25, []⟩ : GEnt)] : List GEnt), [], [], [], 0⟩ : GState) (⟨1, 0, 4, 0, 0, x4, 0, 0, []⟩ : GOp)).bind fun x119 =>
(show Option (Bool) from
bnd (decide (x119.2 = 4)) fun x122 =>
cond x122 ((d_ref14_Same n (⟨(⟨2, 3, ([1, 2, 3, 0] : List Int), y5_4, y5_5⟩ : GMaster), ([(⟨1, false, y5_16, y5_17, y5_18, y5_19, y5_20, []⟩ : GEnt), (⟨1, false, y5_21, y5_22, y5_23, y5_24, y5_25, []⟩ : GEnt)] : List GEnt), [], [], [], 0⟩ : GState) x119.1).bind fun x123 =>
cond x123 ((d_law15_awake n).bind fun x124 =>
some (x124 : Bool)) (some (false : Bool))) (some (false : Bool))).bind <| fun y6_1 =>
some ((y6_1 : Bool))) (bnd (decide (x83 = 2)) fun x85 =>
cond x85 ((d_receive_Do n (⟨(⟨2, 3, ([1, 2, 3, 0] : List Int), y5_4, y5_5⟩ : GMaster), ([(⟨1, false, y5_16, y5_17, y5_18, y5_19, y5_20, []⟩ : GEnt), (⟨1, true, y5_21, y5_22, y5_23, y5_24, y5_25, [(⟨1, false, y5_21, y5_22, y5_23, y5_24, y5_25, []⟩ : GEnt)]⟩ : GEnt)] : List GEnt), [], [], [], 0⟩ : GState) (⟨1, 1, 0, 0, 0, x4, 0, 0, []⟩ : GOp)).bind fun x113 =>
(show Option (Bool) from
bnd (decide (x113.2 = 7)) fun x116 =>
cond x116 ((d_ref14_Same n (⟨(⟨2, 3, ([1, 2, 3, 0] : List Int), y5_4, y5_5⟩ : GMaster), ([(⟨1, false, y5_16, y5_17, y5_18, y5_19, y5_20, []⟩ : GEnt), (⟨1, true, y5_21, y5_22, y5_23, y5_24, y5_25, [(⟨1, false, y5_21, y5_22, y5_23, y5_24, y5_25, []⟩ : GEnt)]⟩ : GEnt)] : List GEnt), [], [], [], 0⟩ : GState) x113.1).bind fun x117 =>
cond x117 ((d_law15_awake n).bind fun x118 =>
some (x118 : Bool)) (some (false : Bool))) (some (false : Bool))).bind <| fun y6_1 =>
some ((y6_1 : Bool))) (bnd (decide (x83 = 3)) fun x86 =>
cond x86 (asrt ((0 : Int) ≤ 40 ∧ (40 : Int) ≤ 1048576) <|
bnd (List.replicate (Int.toNat 40) ((⟨0, 0, 0, 0, 0, 0, 0, 0⟩ : GReceipt) : GReceipt)) fun x105 =>
(d_receive_Do n (⟨(⟨2, 3, ([1, 2, 3, 0] : List Int), y5_4, y5_5⟩ : GMaster), ([(⟨1, false, y5_16, y5_17, y5_18, y5_19, y5_20, []⟩ : GEnt), (⟨1, false, y5_21, y5_22, y5_23, y5_24, y5_25, []⟩ : GEnt)] : List GEnt), x105, [], [], 0⟩ : GState) (⟨1, 0, 0, 0, 0, x4, 0, 0, []⟩ : GOp)).bind fun x107 =>
(show Option (Bool) from
bnd (decide (x107.2 = 6)) fun x110 =>
cond x110 ((d_ref14_Same n (⟨(⟨2, 3, ([1, 2, 3, 0] : List Int), y5_4, y5_5⟩ : GMaster), ([(⟨1, false, y5_16, y5_17, y5_18, y5_19, y5_20, []⟩ : GEnt), (⟨1, false, y5_21, y5_22, y5_23, y5_24, y5_25, []⟩ : GEnt)] : List GEnt), x105, [], [], 0⟩ : GState) x107.1).bind fun x111 =>
cond x111 ((d_law15_awake n).bind fun x112 =>
some (x112 : Bool)) (some (false : Bool))) (some (false : Bool))).bind <| fun y6_1 =>
some ((y6_1 : Bool))) (bnd (decide (x83 = 4)) fun x87 =>
cond x87 ((ix y5_17 1).bind fun x94 =>
bnd (y5_17.set (Int.toNat 1) ((-288230376151711744) : Int)) fun x95 =>
(ix x95 2).bind fun x96 =>
bnd (x95.set (Int.toNat 2) (288230376151711744 : Int)) fun x97 =>
(d_receive_Do n (⟨(⟨2, 3, ([1, 2, 3, 0] : List Int), y5_4, y5_5⟩ : GMaster), ([(⟨1, false, y5_16, x97, y5_18, y5_19, y5_20, []⟩ : GEnt), (⟨1, false, y5_21, y5_22, y5_23, y5_24, y5_25, []⟩ : GEnt)] : List GEnt), [], [], [], 0⟩ : GState) (⟨1, 0, 0, 0, 0, x4, x4, 0, []⟩ : GOp)).bind fun x98 =>
(show Option (Bool) from
bnd (decide (x98.2 = 2)) fun x101 =>
cond x101 ((d_ref14_Same n (⟨(⟨2, 3, ([1, 2, 3, 0] : List Int), y5_4, y5_5⟩ : GMaster), ([(⟨1, false, y5_16, x97, y5_18, y5_19, y5_20, []⟩ : GEnt), (⟨1, false, y5_21, y5_22, y5_23, y5_24, y5_25, []⟩ : GEnt)] : List GEnt), [], [], [], 0⟩ : GState) x98.1).bind fun x102 =>
cond x102 ((d_law15_awake n).bind fun x103 =>
some (x103 : Bool)) (some (false : Bool))) (some (false : Bool))).bind <| fun y6_1 =>
some ((y6_1 : Bool))) ((d_receive_Do n (⟨(⟨2, 3, ([1, 2, 3, 0] : List Int), y5_4, y5_5⟩ : GMaster), ([(⟨1, false, y5_16, y5_17, y5_18, y5_19, y5_20, []⟩ : GEnt), (⟨1, false, y5_21, y5_22, y5_23, y5_24, y5_25, []⟩ : GEnt)] : List GEnt), [], [], [], 0⟩ : GState) (⟨1, 2, 0, 0, 0, x4, 0, 0, []⟩ : GOp)).bind fun x88 =>
(show Option (Bool) from
bnd (decide (x88.2 = 4)) fun x91 =>
cond x91 ((d_ref14_Same n (⟨(⟨2, 3, ([1, 2, 3, 0] : List Int), y5_4, y5_5⟩ : GMaster), ([(⟨1, false, y5_16, y5_17, y5_18, y5_19, y5_20, []⟩ : GEnt), (⟨1, false, y5_21, y5_22, y5_23, y5_24, y5_25, []⟩ : GEnt)] : List GEnt), [], [], [], 0⟩ : GState) x88.1).bind fun x92 =>
cond x92 ((d_law15_awake n).bind fun x93 =>
some (x93 : Bool)) (some (false : Bool))) (some (false : Bool))).bind <| fun y6_1 =>
some ((y6_1 : Bool))))))) q9) q8) q7) q6) q5) q4) q3) q2) q1) q0
theorem d_law15_ReceiveErrors_c {n : Nat} {a1 : Int} {a2 : Int} {r : Bool} (h0 : d_law15_ReceiveErrors n a1 a2 = some r) : PP Tryz.prog 3 [int a1, int a2] (fun y => y = boo r) := by
  unfold d_law15_ReceiveErrors at h0
  refine pp_of_pc (R0 := fun y H => Cv (frzH H) y (boo r)) ?_ (fun y H hc => ⟨_, rfl, pvB r, hc⟩)
  refine pcw (c := _) Tryz.func3 rfl rfl ?_; intro Q hret hnorm
  refine tc tbk 7 (.mk ?_)
  obtain ⟨x3, e3, h0⟩ := bind_e h0
  refine sC cal6 (d_law00_Place_c e3) ?_
  refine ni tbk h0 fun x4 h0 => ?_
  refine tr tbk 4 (.mk ?_)
  obtain ⟨j5, h1, h0⟩ := bind_e h0
  refine rse (Out := fun y H' => (∃ (a : (List (List Int)) × (List (List Int)) × (List GPool) × (List Int) × (List GRoll) × (List Int) × (List Int) × (List GPool) × (List Int) × (List GRoll) × (List Int) × (List Int)) (k : Nat × Nat × Nat × Nat × Nat × Nat × Nat × Nat × Nat × Nat × Nat × Nat × Nat), a = j5 ∧ y = .agg [int 2, int 3, lst 1 fI ([1, 2, 3, 0] : List Int), .sl 3 k.1 0 a.1.length, .sl 4 k.2.1 0 a.2.1.length, .sl 14 k.2.2.1 0 2, .sc (.slice none 0 0), .sc (.slice none 0 0), .sc (.slice none 0 0), int 0] ∧ H' = hk [(3, ⟨23, 1, true, true, k.1, a.1.map (fL 1 fI)⟩), (4, ⟨23, 1, true, true, k.2.1, a.2.1.map (fL 1 fI)⟩), (8, ⟨82, 4, true, true, k.2.2.2.1, a.2.2.1.map GPool.av⟩), (9, ⟨3, 1, true, true, k.2.2.2.2.1, a.2.2.2.1.map fI⟩), (10, ⟨67, 11, true, true, k.2.2.2.2.2.1, a.2.2.2.2.1.map GRoll.av⟩), (11, ⟨3, 1, true, true, k.2.2.2.2.2.2.1, a.2.2.2.2.2.1.map fI⟩), (12, ⟨3, 1, true, true, k.2.2.2.2.2.2.2.1, a.2.2.2.2.2.2.1.map fI⟩), (14, ⟨40, 8, true, true, k.2.2.1, [[int 1, boo false, .sl 8 k.2.2.2.1 0 a.2.2.1.length, .sl 9 k.2.2.2.2.1 0 a.2.2.2.1.length, .sl 10 k.2.2.2.2.2.1 0 a.2.2.2.2.1.length, .sl 11 k.2.2.2.2.2.2.1 0 a.2.2.2.2.2.1.length, .sl 12 k.2.2.2.2.2.2.2.1 0 a.2.2.2.2.2.2.1.length, .sc (.slice none 0 0)], [int 1, boo false, .sl 15 k.2.2.2.2.2.2.2.2.1 0 a.2.2.2.2.2.2.2.1.length, .sl 16 k.2.2.2.2.2.2.2.2.2.1 0 a.2.2.2.2.2.2.2.2.1.length, .sl 17 k.2.2.2.2.2.2.2.2.2.2.1 0 a.2.2.2.2.2.2.2.2.2.1.length, .sl 18 k.2.2.2.2.2.2.2.2.2.2.2.1 0 a.2.2.2.2.2.2.2.2.2.2.1.length, .sl 19 k.2.2.2.2.2.2.2.2.2.2.2.2 0 a.2.2.2.2.2.2.2.2.2.2.2.length, .sc (.slice none 0 0)]]⟩), (15, ⟨82, 4, true, true, k.2.2.2.2.2.2.2.2.1, a.2.2.2.2.2.2.2.1.map GPool.av⟩), (16, ⟨3, 1, true, true, k.2.2.2.2.2.2.2.2.2.1, a.2.2.2.2.2.2.2.2.1.map fI⟩), (17, ⟨67, 11, true, true, k.2.2.2.2.2.2.2.2.2.2.1, a.2.2.2.2.2.2.2.2.2.1.map GRoll.av⟩), (18, ⟨3, 1, true, true, k.2.2.2.2.2.2.2.2.2.2.2.1, a.2.2.2.2.2.2.2.2.2.2.1.map fI⟩), (19, ⟨3, 1, true, true, k.2.2.2.2.2.2.2.2.2.2.2.2, a.2.2.2.2.2.2.2.2.2.2.2.map fI⟩)])) rfl rfl rfl (yl_call rfl rfl .nil cal7 ?_) ?_
  refine pcw (c := _) Tryz.func7 rfl rfl ?_; intro Q hret hnorm
  refine tc tbk 2 (.mk ?_)
  refine sA 1 z32 fun v6 => ?_
  refine tr tbk 3 (.mk ?_)
  refine sY (yv_to (y := lst 1 fI ([1, 2, 3, 0] : List Int)) (yv_buildSlice (ps := [(0, _), (1, _), (2, _), (3, _)]) (rows := [[int 1], [int 2], [int 3], [int 0]]) rfl Tryz.underlying23 bz3 (.cons rfl (.cons rfl (.cons rfl (.cons rfl .nil)))) (by kernel_rfl) rfl rfl rfl) rfl) ?_
  refine tr tbk 1 (.mk ?_)
  refine sA 2 z26 fun v7 => ?_
  refine sS ⟨26, 5, true, true, v7, [[int 2, int 3, lst 1 fI ([1, 2, 3, 0] : List Int), .sc (.slice none 0 0), .sc (.slice none 0 0)]]⟩ sh26 ?_
  refine tr tbk 6 (.mk ?_)
  refine jn h1 [0, 1] [1] (fun (a : (List (List Int)) × (List (List Int))) (k : Nat × Nat) => []) (fun a k => [(2, ⟨26, 5, true, true, v7, [[int 2, int 3, lst 1 fI ([1, 2, 3, 0] : List Int), .sl 3 k.1 0 a.1.length, .sl 4 k.2 0 a.2.length]]⟩), (3, ⟨23, 1, true, true, k.1, a.1.map (fL 1 fI)⟩), (4, ⟨23, 1, true, true, k.2, a.2.map (fL 1 fI)⟩)]) ⟨fun j8 h2 => ?_, ?_⟩
  refine tc tbk 6 (.mk ?_)
  refine sY (yv_to (y := boo true) (yv_lss rfl rfl rfl) (congrArg boo (by decide))) ?_
  refine tr tbk 5 (.mk ?_)
  refine c_drawE [0, 1, 0, 4, 15, 0, 32, 0, 128, 511, 127, 2047, 4095, 8191] (rl [(0, [2]), (1, [2]), (5, [2]), (6, [2]), (10, [2]), (12, [2])] []) (rl [(11, []), (13, [])] [2]) (rl [(4, false), (9, false), (11, false), (13, false)] true) [0, 1, 2, 3, 5, 6, 7, 8, 4, 10, 9, 11, 12, 13] mixed (by kernel_rfl) ?_; intro K hK
  refine eF fo26_3 ?_
  refine eL sh24 ?_
  refine eP (fun H hH => yv_to (y := lst 1 fI ([1, 2, 3, 4] : List Int)) (yv_buildSlice (ps := [(0, _), (1, _), (2, _), (3, _)]) (rows := [[int 1], [int 2], [int 3], [int 4]]) rfl Tryz.underlying23 bz3 (.cons rfl (.cons rfl (.cons rfl (.cons rfl .nil)))) (by kernel_rfl) rfl rfl rfl) rfl) ?_
  refine eP (fun H hH => yv_to (y := lst 1 (fL 1 fI) ([([1, 2, 3, 4] : List Int)] : List (List Int))) (yv_buildSlice (ps := [(0, _)]) (rows := [[lst 1 fI ([1, 2, 3, 4] : List Int)]]) rfl Tryz.underlying24 bz23 (.cons rfl .nil) (by kernel_rfl) rfl rfl rfl) rfl) ?_
  refine eF fo26_4 ?_
  refine eL sh24 ?_
  refine eP (fun H hH => yv_to (y := lst 1 fI ([10, 10, 10, 10] : List Int)) (yv_buildSlice (ps := [(0, _), (1, _), (2, _), (3, _)]) (rows := [[int 10], [int 10], [int 10], [int 10]]) rfl Tryz.underlying23 bz3 (.cons rfl (.cons rfl (.cons rfl (.cons rfl .nil)))) (by kernel_rfl) rfl rfl rfl) rfl) ?_
  refine eP (fun H hH => yv_to (y := lst 1 (fL 1 fI) ([([10, 10, 10, 10] : List Int)] : List (List Int))) (yv_buildSlice (ps := [(0, _)]) (rows := [[lst 1 fI ([10, 10, 10, 10] : List Int)]]) rfl Tryz.underlying24 bz23 (.cons rfl .nil) (by kernel_rfl) rfl rfl rfl) rfl) ?_
  obtain ⟨p9, h2⟩ := asrt_e h2
  refine de_eff rfl rfl rfl rfl (yl_app0T (g := (fL 1 fI)) (m := ([([1, 2, 3, 4] : List Int)] : List (List Int))) 3 rfl Tryz.underlying24 bz23 by23 rfl rfl rfl rfl (.refl _) (fun _ => rfl) p9) (by rintro _ _ ⟨v10, rfl, rfl⟩; exact ⟨rfl, trivial⟩) ?_; rintro _ _ ⟨v10, rfl, rfl⟩
  refine eF fo26_3 ?_
  obtain ⟨p11, h2⟩ := asrt_e h2
  refine de_eff rfl rfl rfl rfl (yl_app0T (g := (fL 1 fI)) (m := ([([10, 10, 10, 10] : List Int)] : List (List Int))) 4 rfl Tryz.underlying24 bz23 by23 rfl rfl rfl rfl (.refl _) (fun _ => rfl) p11) (by rintro _ _ ⟨v12, rfl, rfl⟩; exact ⟨rfl, trivial⟩) ?_; rintro _ _ ⟨v12, rfl, rfl⟩
  refine de_eff0 rfl rfl rfl rfl (Yield.weak (yl_ob (ob' := (⟨26, 5, true, true, v7, [[int 2, int 3, lst 1 fI ([1, 2, 3, 0] : List Int), .sl 3 v10 0 (([([1, 2, 3, 4] : List Int)] : List (List Int)).length), .sc (.slice none 0 0)]]⟩ : AObj)) (yl_store rfl sh24 rfl rfl rfl rfl rfl rfl rfl rfl rfl) rfl) (fun _ h => h) (fun _ _ => trivial)) (by rintro _ _ ⟨rfl, rfl⟩; exact trivial) ?_; rintro _ _ ⟨rfl, rfl⟩
  refine eF fo26_4 ?_
  refine de_eff0 rfl rfl rfl rfl (Yield.weak (yl_ob (ob' := (⟨26, 5, true, true, v7, [[int 2, int 3, lst 1 fI ([1, 2, 3, 0] : List Int), .sl 3 v10 0 (([([1, 2, 3, 4] : List Int)] : List (List Int)).length), .sl 4 v12 0 (([([10, 10, 10, 10] : List Int)] : List (List Int)).length)]]⟩ : AObj)) (yl_store rfl sh24 rfl rfl rfl rfl rfl rfl rfl rfl rfl) rfl) (fun _ h => h) (fun _ _ => trivial)) (by rintro _ _ ⟨rfl, rfl⟩; exact trivial) ?_; rintro _ _ ⟨rfl, rfl⟩
  refine de_nil (hK _ ?_)
  refine tc tbk 3 (.mk ?_)
  refine sY (yv_add (r := 1) rfl rfl rfl (by decide)) ?_
  refine tr tbk 7 (.mk ?_)
  refine sY (yv_to (y := boo true) (yv_lss rfl rfl rfl) (congrArg boo (by decide))) ?_
  refine tr tbk 5 (.mk ?_)
  refine c_drawE [0, 1, 0, 4, 15, 0, 32, 0, 128, 511, 127, 2047, 4095, 8191] (rl [(0, [2]), (1, [2]), (5, [2]), (6, [2]), (10, [2]), (12, [2])] []) (rl [(11, []), (13, [])] [2]) (rl [(4, false), (9, false), (11, false), (13, false)] true) [0, 1, 2, 3, 5, 6, 7, 8, 4, 10, 9, 11, 12, 13] mixed (by kernel_rfl) ?_; intro K hK
  refine eF fo26_3 ?_
  refine eL sh24 ?_
  refine eP (fun H hH => yv_to (y := lst 1 fI ([1, 2, 3, 4] : List Int)) (yv_buildSlice (ps := [(0, _), (1, _), (2, _), (3, _)]) (rows := [[int 1], [int 2], [int 3], [int 4]]) rfl Tryz.underlying23 bz3 (.cons rfl (.cons rfl (.cons rfl (.cons rfl .nil)))) (by kernel_rfl) rfl rfl rfl) rfl) ?_
  refine eP (fun H hH => yv_to (y := lst 1 (fL 1 fI) ([([1, 2, 3, 4] : List Int)] : List (List Int))) (yv_buildSlice (ps := [(0, _)]) (rows := [[lst 1 fI ([1, 2, 3, 4] : List Int)]]) rfl Tryz.underlying24 bz23 (.cons rfl .nil) (by kernel_rfl) rfl rfl rfl) rfl) ?_
  refine eF fo26_4 ?_
  refine eL sh24 ?_
  refine eP (fun H hH => yv_to (y := lst 1 fI ([10, 10, 10, 10] : List Int)) (yv_buildSlice (ps := [(0, _), (1, _), (2, _), (3, _)]) (rows := [[int 10], [int 10], [int 10], [int 10]]) rfl Tryz.underlying23 bz3 (.cons rfl (.cons rfl (.cons rfl (.cons rfl .nil)))) (by kernel_rfl) rfl rfl rfl) rfl) ?_
  refine eP (fun H hH => yv_to (y := lst 1 (fL 1 fI) ([([10, 10, 10, 10] : List Int)] : List (List Int))) (yv_buildSlice (ps := [(0, _)]) (rows := [[lst 1 fI ([10, 10, 10, 10] : List Int)]]) rfl Tryz.underlying24 bz23 (.cons rfl .nil) (by kernel_rfl) rfl rfl rfl) rfl) ?_
  obtain ⟨x13, e13, h2⟩ := bnd_e h2
  obtain ⟨p14, h2⟩ := asrt_e h2
  refine de_eff rfl rfl rfl rfl (yl_appT (g := (fL 1 fI)) (l := ([([1, 2, 3, 4] : List Int)] : List (List Int))) (m := ([([1, 2, 3, 4] : List Int)] : List (List Int))) .any rfl Tryz.underlying24 bz23 by23 rfl rfl rfl rfl rfl rfl rfl rfl rfl rfl (Eq.symm rfl) (.refl _) (fun _ => rfl) e13 p14) (by rintro _ _ ⟨v15, -, rfl, rfl⟩; exact ⟨rfl, trivial⟩) ?_; rintro _ _ ⟨v15, -, rfl, rfl⟩
  refine eF fo26_3 ?_
  obtain ⟨x16, e16, h2⟩ := bnd_e h2
  obtain ⟨p17, h2⟩ := asrt_e h2
  refine de_eff rfl rfl rfl rfl (yl_appT (g := (fL 1 fI)) (l := ([([10, 10, 10, 10] : List Int)] : List (List Int))) (m := ([([10, 10, 10, 10] : List Int)] : List (List Int))) .any rfl Tryz.underlying24 bz23 by23 rfl rfl rfl rfl rfl rfl rfl rfl rfl rfl (Eq.symm rfl) (.refl _) (fun _ => rfl) e16 p17) (by rintro _ _ ⟨v18, -, rfl, rfl⟩; exact ⟨rfl, trivial⟩) ?_; rintro _ _ ⟨v18, -, rfl, rfl⟩
  refine de_eff0 rfl rfl rfl rfl (Yield.weak (yl_ob (ob' := (⟨26, 5, true, true, v7, [[int 2, int 3, lst 1 fI ([1, 2, 3, 0] : List Int), .sl 3 v15 0 x13.length, .sl 4 v12 0 (([([10, 10, 10, 10] : List Int)] : List (List Int)).length)]]⟩ : AObj)) (yl_store rfl sh24 rfl rfl rfl rfl rfl rfl rfl rfl rfl) rfl) (fun _ h => h) (fun _ _ => trivial)) (by rintro _ _ ⟨rfl, rfl⟩; exact trivial) ?_; rintro _ _ ⟨rfl, rfl⟩
  refine eF fo26_4 ?_
  refine de_eff0 rfl rfl rfl rfl (Yield.weak (yl_ob (ob' := (⟨26, 5, true, true, v7, [[int 2, int 3, lst 1 fI ([1, 2, 3, 0] : List Int), .sl 3 v15 0 x13.length, .sl 4 v18 0 x16.length]]⟩ : AObj)) (yl_store rfl sh24 rfl rfl rfl rfl rfl rfl rfl rfl rfl) rfl) (fun _ h => h) (fun _ _ => trivial)) (by rintro _ _ ⟨rfl, rfl⟩; exact trivial) ?_; rintro _ _ ⟨rfl, rfl⟩
  refine de_nil (hK _ ?_)
  refine tc tbk 3 (.mk ?_)
  refine sY (yv_add (r := 2) rfl rfl rfl (by decide)) ?_
  refine tr tbk 7 (.mk ?_)
  refine sY (yv_to (y := boo false) (yv_lss rfl rfl rfl) (congrArg boo (by decide))) ?_
  refine tr tbk 3 (.mk ?_)
  exact lf h2 (v15, v18) leA
  rintro ⟨y0_3, y0_4⟩ ⟨w0_1, w0_2⟩ h1
  replace h1 := p2_e h1
  refine tc tbk 3 (.mk ?_)
  obtain ⟨j19, h2, h1⟩ := bind_e h1
  refine rse (Out := fun y H' => (∃ (a : (List GPool) × (List Int) × (List GRoll) × (List Int) × (List Int) × (List GPool) × (List Int) × (List GRoll) × (List Int) × (List Int)) (k : Nat × Nat × Nat × Nat × Nat × Nat × Nat × Nat × Nat × Nat × Nat), a = j19 ∧ y = .tup [.agg [int 2, int 3, lst 1 fI ([1, 2, 3, 0] : List Int), .sl 3 w0_1 0 y0_3.length, .sl 4 w0_2 0 y0_4.length, .sl 14 k.1 0 2, .sc (.slice none 0 0), .sc (.slice none 0 0), .sc (.slice none 0 0), int 0], int 0] ∧ H' = hk [(1, ⟨32, 10, true, true, v6, [[int 0, int 0, .sc (.slice none 0 0), .sc (.slice none 0 0), .sc (.slice none 0 0), .sc (.slice none 0 0), .sc (.slice none 0 0), .sc (.slice none 0 0), .sc (.slice none 0 0), int 0]]⟩), (2, ⟨26, 5, true, true, v7, [[int 2, int 3, lst 1 fI ([1, 2, 3, 0] : List Int), .sl 3 w0_1 0 y0_3.length, .sl 4 w0_2 0 y0_4.length]]⟩), (3, ⟨23, 1, true, true, w0_1, y0_3.map (fL 1 fI)⟩), (4, ⟨23, 1, true, true, w0_2, y0_4.map (fL 1 fI)⟩), (8, ⟨82, 4, true, true, k.2.1, a.1.map GPool.av⟩), (9, ⟨3, 1, true, true, k.2.2.1, a.2.1.map fI⟩), (10, ⟨67, 11, true, true, k.2.2.2.1, a.2.2.1.map GRoll.av⟩), (11, ⟨3, 1, true, true, k.2.2.2.2.1, a.2.2.2.1.map fI⟩), (12, ⟨3, 1, true, true, k.2.2.2.2.2.1, a.2.2.2.2.1.map fI⟩), (14, ⟨40, 8, true, true, k.1, [[int 1, boo false, .sl 8 k.2.1 0 a.1.length, .sl 9 k.2.2.1 0 a.2.1.length, .sl 10 k.2.2.2.1 0 a.2.2.1.length, .sl 11 k.2.2.2.2.1 0 a.2.2.2.1.length, .sl 12 k.2.2.2.2.2.1 0 a.2.2.2.2.1.length, .sc (.slice none 0 0)], [int 1, boo false, .sl 15 k.2.2.2.2.2.2.1 0 a.2.2.2.2.2.1.length, .sl 16 k.2.2.2.2.2.2.2.1 0 a.2.2.2.2.2.2.1.length, .sl 17 k.2.2.2.2.2.2.2.2.1 0 a.2.2.2.2.2.2.2.1.length, .sl 18 k.2.2.2.2.2.2.2.2.2.1 0 a.2.2.2.2.2.2.2.2.1.length, .sl 19 k.2.2.2.2.2.2.2.2.2.2 0 a.2.2.2.2.2.2.2.2.2.length, .sc (.slice none 0 0)]]⟩), (15, ⟨82, 4, true, true, k.2.2.2.2.2.2.1, a.2.2.2.2.2.1.map GPool.av⟩), (16, ⟨3, 1, true, true, k.2.2.2.2.2.2.2.1, a.2.2.2.2.2.2.1.map fI⟩), (17, ⟨67, 11, true, true, k.2.2.2.2.2.2.2.2.1, a.2.2.2.2.2.2.2.1.map GRoll.av⟩), (18, ⟨3, 1, true, true, k.2.2.2.2.2.2.2.2.2.1, a.2.2.2.2.2.2.2.2.1.map fI⟩), (19, ⟨3, 1, true, true, k.2.2.2.2.2.2.2.2.2.2, a.2.2.2.2.2.2.2.2.2.map fI⟩)])) rfl rfl rfl (yl_call rfl rfl (.cons rfl .nil) cal15 ?_) ?_
  refine pcw (c := _) Tryz.func15 rfl rfl ?_; intro Q hret hnorm
  refine tc tbk 2 (.mk ?_)
  refine sB 5 fun v20 => ?_
  refine sA 6 z32 fun v21 => ?_
  refine tr tbk 6 (.mk ?_)
  obtain ⟨x22, e22, h2⟩ := bind_e h2
  refine sY (yv_callT (v := boo x22) rfl rfl (.cons rfl .nil) cal36 (.cons (CvL.agg (.cons (.refl _) (.cons (.refl _) (.cons (.refl _) (.cons (cv_lst rfl rfl rfl rfl rfl (Eq.symm rfl)) (.cons (cv_lst rfl rfl rfl rfl rfl (Eq.symm rfl)) .nil)))))) .nil) (d_ref04_Check_c e22) rfl) ?_
  refine nb tbk h2 fun x23 h2 => ?_
  refine tr tbk 1 (.mk ?_)
  replace h2 := asrt_e h2
  obtain ⟨rfl, h2⟩ := h2
  refine tc tbk 5 (.mk ?_)
  refine sY (yv_build (cs := [int 2, int 3, lst 1 fI ([1, 2, 3, 0] : List Int), .sl 3 w0_1 0 y0_3.length, .sl 4 w0_2 0 y0_4.length, .sc (.slice none 0 0), .sc (.slice none 0 0), .sc (.slice none 0 0), .sc (.slice none 0 0), int 0]) (ps := [(0, _)]) rfl pl32 z32 rfl (.cons rfl .nil) (by kernel_rfl)) ?_
  refine sA 7 z32 fun v24 => ?_
  refine sS ⟨32, 10, true, true, v24, [[int 2, int 3, lst 1 fI ([1, 2, 3, 0] : List Int), .sl 3 w0_1 0 y0_3.length, .sl 4 w0_2 0 y0_4.length, .sc (.slice none 0 0), .sc (.slice none 0 0), .sc (.slice none 0 0), .sc (.slice none 0 0), int 0]]⟩ sh32 ?_
  refine tr tbk 5 (.mk ?_)
  refine sY (yv_to (y := int 4) (yv_len_sl rfl Tryz.underlying23 rfl (lst_len _)) rfl) ?_
  refine tr tbk 7 (.mk ?_)
  refine jn h2 [2, 3, 4] [1, 2, 3, 4, 6] (fun (a : (List GPool) × (List Int) × (List GRoll) × (List Int) × (List Int) × (List GPool) × (List Int) × (List GRoll) × (List Int) × (List Int)) (k : Nat × Nat × Nat × Nat × Nat × Nat × Nat × Nat × Nat × Nat × Nat) => []) (fun a k => [(7, ⟨32, 10, true, true, v24, [[int 2, int 3, lst 1 fI ([1, 2, 3, 0] : List Int), .sl 3 w0_1 0 y0_3.length, .sl 4 w0_2 0 y0_4.length, .sl 14 k.1 0 2, .sc (.slice none 0 0), .sc (.slice none 0 0), .sc (.slice none 0 0), int 0]]⟩), (8, ⟨82, 4, true, true, k.2.1, a.1.map GPool.av⟩), (9, ⟨3, 1, true, true, k.2.2.1, a.2.1.map fI⟩), (10, ⟨67, 11, true, true, k.2.2.2.1, a.2.2.1.map GRoll.av⟩), (11, ⟨3, 1, true, true, k.2.2.2.2.1, a.2.2.2.1.map fI⟩), (12, ⟨3, 1, true, true, k.2.2.2.2.2.1, a.2.2.2.2.1.map fI⟩), (14, ⟨40, 8, true, true, k.1, [[int 1, boo false, .sl 8 k.2.1 0 a.1.length, .sl 9 k.2.2.1 0 a.2.1.length, .sl 10 k.2.2.2.1 0 a.2.2.1.length, .sl 11 k.2.2.2.2.1 0 a.2.2.2.1.length, .sl 12 k.2.2.2.2.2.1 0 a.2.2.2.2.1.length, .sc (.slice none 0 0)], [int 1, boo false, .sl 15 k.2.2.2.2.2.2.1 0 a.2.2.2.2.2.1.length, .sl 16 k.2.2.2.2.2.2.2.1 0 a.2.2.2.2.2.2.1.length, .sl 17 k.2.2.2.2.2.2.2.2.1 0 a.2.2.2.2.2.2.2.1.length, .sl 18 k.2.2.2.2.2.2.2.2.2.1 0 a.2.2.2.2.2.2.2.2.1.length, .sl 19 k.2.2.2.2.2.2.2.2.2.2 0 a.2.2.2.2.2.2.2.2.2.length, .sc (.slice none 0 0)]]⟩), (15, ⟨82, 4, true, true, k.2.2.2.2.2.2.1, a.2.2.2.2.2.1.map GPool.av⟩), (16, ⟨3, 1, true, true, k.2.2.2.2.2.2.2.1, a.2.2.2.2.2.2.1.map fI⟩), (17, ⟨67, 11, true, true, k.2.2.2.2.2.2.2.2.1, a.2.2.2.2.2.2.2.1.map GRoll.av⟩), (18, ⟨3, 1, true, true, k.2.2.2.2.2.2.2.2.2.1, a.2.2.2.2.2.2.2.2.1.map fI⟩), (19, ⟨3, 1, true, true, k.2.2.2.2.2.2.2.2.2.2, a.2.2.2.2.2.2.2.2.2.map fI⟩)]) ⟨fun j25 h3 => ?_, ?_⟩
  refine tc tbk 8 (.mk ?_)
  refine sY (yv_to (y := boo true) (yv_lss rfl rfl rfl) (congrArg boo (by decide))) ?_
  refine tr tbk 4 (.mk ?_)
  refine jn h3 [1, 2, 3, 4, 5, 6] [1, 2, 3, 4, 5, 6] (fun (a : (List GPool) × (List Int) × (List GRoll) × (List Int) × (List Int)) (k : Nat × Nat × Nat × Nat × Nat × Nat) => []) (fun a k => [(7, ⟨32, 10, true, true, v24, [[int 2, int 3, lst 1 fI ([1, 2, 3, 0] : List Int), .sl 3 w0_1 0 y0_3.length, .sl 4 w0_2 0 y0_4.length, .sl 14 k.1 0 1, .sc (.slice none 0 0), .sc (.slice none 0 0), .sc (.slice none 0 0), int 0]]⟩), (8, ⟨82, 4, true, true, k.2.1, a.1.map GPool.av⟩), (9, ⟨3, 1, true, true, k.2.2.1, a.2.1.map fI⟩), (10, ⟨67, 11, true, true, k.2.2.2.1, a.2.2.1.map GRoll.av⟩), (11, ⟨3, 1, true, true, k.2.2.2.2.1, a.2.2.2.1.map fI⟩), (12, ⟨3, 1, true, true, k.2.2.2.2.2, a.2.2.2.2.map fI⟩), (14, ⟨40, 8, true, true, k.1, [[int 1, boo false, .sl 8 k.2.1 0 a.1.length, .sl 9 k.2.2.1 0 a.2.1.length, .sl 10 k.2.2.2.1 0 a.2.2.1.length, .sl 11 k.2.2.2.2.1 0 a.2.2.2.1.length, .sl 12 k.2.2.2.2.2 0 a.2.2.2.2.length, .sc (.slice none 0 0)]]⟩)]) ⟨fun j26 h4 => ?_, ?_⟩
  refine tc tbk 2 (.mk ?_)
  refine c_draw [0, 1, 3, 0, 0, 16, 0, 64, 0, 256, 1023, 0, 4095] (fun i k => bif Nat.beq i 12 then (Nat.beq k 8 || Nat.beq k 9 || Nat.beq k 10 || Nat.beq k 11 || Nat.beq k 12 || Nat.beq k 13) else false) (fun i => bif Nat.beq i 2 then (some 8) else bif Nat.beq i 3 then (some 9) else bif Nat.beq i 5 then (some 10) else bif Nat.beq i 7 then (some 11) else bif Nat.beq i 9 then (some 12) else bif Nat.beq i 11 then (some 13) else bif Nat.beq i 12 then (some 13) else none) mixed (by kernel_rfl) ?_; intro C K hK
  refine dg_pure rfl (fun H hH => yv_move rfl rfl) ?_
  refine dg_pure rfl (fun H hH => yv_mul (r := 8) rfl rfl rfl (by decide)) ?_
  obtain ⟨p27, h4⟩ := asrt_e h4
  obtain ⟨x28, e28, h4⟩ := bnd_e h4
  have lx28 : x28.length = (Int.toNat 8) := by rw [← e28]; exact List.length_replicate
  refine dg_eff rfl rfl (fun H hH => yl_one (yl_make 8 (g := GPool.av) (z0 := ((⟨[], (⟨0, 0, 0⟩ : A3_Int)⟩ : GPool) : GPool)) (.one _) rfl Tryz.underlying37 bz82 by82 rfl rfl rfl p27 (.cons (.nil _) (.cons (.sc _) (.cons (.sc _) (.cons (.sc _) .nil)))) e28)) ?_; generalize C + 2 = v29
  obtain ⟨p30, h4⟩ := asrt_e h4
  obtain ⟨x31, e31, h4⟩ := bnd_e h4
  have lx31 : x31.length = (Int.toNat 17) := by rw [← e31]; exact List.length_replicate
  refine dg_eff rfl rfl (fun H hH => yl_one (yl_make 9 (g := fI) (z0 := (0 : Int)) (.one _) rfl Tryz.underlying23 bz3 by3 rfl rfl rfl p30 (.cons (.sc _) .nil) e31)) ?_; generalize C + 3 = v32
  refine dg_pure rfl (fun H hH => yv_move rfl rfl) ?_
  obtain ⟨p33, h4⟩ := asrt_e h4
  obtain ⟨x34, e34, h4⟩ := bnd_e h4
  have lx34 : x34.length = (Int.toNat 4) := by rw [← e34]; exact List.length_replicate
  refine dg_eff rfl rfl (fun H hH => yl_one (yl_make 10 (g := GRoll.av) (z0 := ((⟨0, 0, 0, 0, 0, 0, 0, 0, 0, 0, 0⟩ : GRoll) : GRoll)) (.one _) rfl Tryz.underlying38 bz67 by67 rfl rfl rfl p33 (.cons (.sc _) (.cons (.sc _) (.cons (.sc _) (.cons (.sc _) (.cons (.sc _) (.cons (.sc _) (.cons (.sc _) (.cons (.sc _) (.cons (.sc _) (.cons (.sc _) (.cons (.sc _) .nil))))))))))) e34)) ?_; generalize C + 5 = v35
  refine dg_pure rfl (fun H hH => yv_move rfl rfl) ?_
  obtain ⟨p36, h4⟩ := asrt_e h4
  obtain ⟨x37, e37, h4⟩ := bnd_e h4
  have lx37 : x37.length = (Int.toNat 4) := by rw [← e37]; exact List.length_replicate
  refine dg_eff rfl rfl (fun H hH => yl_one (yl_make 11 (g := fI) (z0 := (0 : Int)) (.one _) rfl Tryz.underlying23 bz3 by3 rfl rfl rfl p36 (.cons (.sc _) .nil) e37)) ?_; generalize C + 7 = v38
  refine dg_pure rfl (fun H hH => yv_move rfl rfl) ?_
  obtain ⟨p39, h4⟩ := asrt_e h4
  obtain ⟨x40, e40, h4⟩ := bnd_e h4
  have lx40 : x40.length = (Int.toNat 4) := by rw [← e40]; exact List.length_replicate
  refine dg_eff rfl rfl (fun H hH => yl_one (yl_make 12 (g := fI) (z0 := (0 : Int)) (.one _) rfl Tryz.underlying23 bz3 by3 rfl rfl rfl p39 (.cons (.sc _) .nil) e40)) ?_; generalize C + 9 = v41
  refine dg_pure rfl (fun H hH => yv_build (cs := [int 1, boo false, .sl 8 v29 0 (Int.toNat 8), .sl 9 v32 0 (Int.toNat 17), .sl 10 v35 0 (Int.toNat 4), .sl 11 v38 0 (Int.toNat 4), .sl 12 v41 0 (Int.toNat 4), .sc (.slice none 0 0)]) (ps := [(0, _), (2, _), (3, _), (4, _), (5, _), (6, _)]) rfl pl40 z40 rfl (.cons rfl (.cons rfl (.cons rfl (.cons rfl (.cons rfl (.cons rfl .nil)))))) (by kernel_rfl)) ?_
  refine dg_eff rfl rfl (fun H hH => yl_alloc1 13 rfl z40 rfl) ?_; generalize C + 11 = v42
  refine dg_store rfl rfl rfl (fun H hH => yl_ob (ob' := (⟨40, 8, true, true, v42, [[int 1, boo false, .sl 8 v29 0 (Int.toNat 8), .sl 9 v32 0 (Int.toNat 17), .sl 10 v35 0 (Int.toNat 4), .sl 11 v38 0 (Int.toNat 4), .sl 12 v41 0 (Int.toNat 4), .sc (.slice none 0 0)]]⟩ : AObj)) (yl_store rfl sh40 rfl rfl ((hH _ rfl).trans rfl) rfl rfl rfl rfl rfl rfl) rfl) ?_
  refine dg_nil (hK _ ?_)
  refine tc tbk 5 (.mk ?_)
  refine jn h4 [1, 2, 3, 4, 5, 6, 7] [1, 2, 3, 4, 5, 6, 7, 8, 9, 10, 12] (fun (a : (List Int)) (k : Unit) => []) (fun a k => [(11, ⟨3, 1, true, true, v38, a.map fI⟩), (13, ⟨40, 8, true, true, v42, [[int 1, boo false, .sl 8 v29 0 (Int.toNat 8), .sl 9 v32 0 (Int.toNat 17), .sl 10 v35 0 (Int.toNat 4), .sl 11 v38 0 a.length, .sl 12 v41 0 (Int.toNat 4), .sc (.slice none 0 0)]]⟩)]) ⟨fun j43 h5 => ?_, ?_⟩
  refine tc tbk 7 (.mk ?_)
  refine sY (yv_to (y := boo true) (yv_lss rfl rfl rfl) (congrArg boo (by decide))) ?_
  refine tr tbk 9 (.mk ?_)
  obtain ⟨x44, e44, h5⟩ := bind_e h5
  refine sY (yv_ixO rfl Tryz.underlying23 sh3 rfl rfl rfl rfl rfl (Eq.symm lx37) (List.length_map _) e44) ?_
  obtain ⟨x45, e45, h5⟩ := bnd_e h5
  have fx45 := ix_set e44 e45; have lx45 := len_setV e45 lx37
  refine rsstore rfl rfl (yl_ob (ob' := (⟨3, 1, true, true, v38, x45.map fI⟩ : AObj)) (yl_store rfl sh3 rfl rfl rfl rfl rfl (ix_get e44) rfl rfl rfl) (ob_eq (map_setV e45))) ?_
  refine tr tbk 4 (.mk ?_)
  refine sY (yv_add (r := 1) rfl rfl rfl (by decide)) ?_
  refine tr tbk 8 (.mk ?_)
  refine sY (yv_to (y := boo true) (yv_lss rfl rfl rfl) (congrArg boo (by decide))) ?_
  refine tr tbk 9 (.mk ?_)
  obtain ⟨x46, e46, h5⟩ := bind_e h5
  refine sY (yv_ixO rfl Tryz.underlying23 sh3 rfl rfl rfl rfl rfl (Eq.symm lx45) (List.length_map _) e46) ?_
  obtain ⟨x47, e47, h5⟩ := bnd_e h5
  have fx47 := ix_set e46 e47; have lx47 := len_setV e47 lx45
  refine rsstore rfl rfl (yl_ob (ob' := (⟨3, 1, true, true, v38, x47.map fI⟩ : AObj)) (yl_store rfl sh3 rfl rfl rfl rfl rfl (ix_get e46) rfl rfl rfl) (ob_eq (map_setV e47))) ?_
  refine tr tbk 4 (.mk ?_)
  refine sY (yv_add (r := 2) rfl rfl rfl (by decide)) ?_
  refine tr tbk 8 (.mk ?_)
  refine sY (yv_to (y := boo true) (yv_lss rfl rfl rfl) (congrArg boo (by decide))) ?_
  refine tr tbk 9 (.mk ?_)
  obtain ⟨x48, e48, h5⟩ := bind_e h5
  refine sY (yv_ixO rfl Tryz.underlying23 sh3 rfl rfl rfl rfl rfl (Eq.symm lx47) (List.length_map _) e48) ?_
  obtain ⟨x49, e49, h5⟩ := bnd_e h5
  have fx49 := ix_set e48 e49; have lx49 := len_setV e49 lx47
  refine rsstore rfl rfl (yl_ob (ob' := (⟨3, 1, true, true, v38, x49.map fI⟩ : AObj)) (yl_store rfl sh3 rfl rfl rfl rfl rfl (ix_get e48) rfl rfl rfl) (ob_eq (map_setV e49))) ?_
  refine tr tbk 4 (.mk ?_)
  refine sY (yv_add (r := 3) rfl rfl rfl (by decide)) ?_
  refine tr tbk 8 (.mk ?_)
  refine sY (yv_to (y := boo true) (yv_lss rfl rfl rfl) (congrArg boo (by decide))) ?_
  refine tr tbk 9 (.mk ?_)
  obtain ⟨x50, e50, h5⟩ := bind_e h5
  refine sY (yv_ixO rfl Tryz.underlying23 sh3 rfl rfl rfl rfl rfl (Eq.symm lx49) (List.length_map _) e50) ?_
  obtain ⟨x51, e51, h5⟩ := bnd_e h5
  have fx51 := ix_set e50 e51; have lx51 := len_setV e51 lx49
  refine rsstore rfl rfl (yl_ob (ob' := (⟨3, 1, true, true, v38, x51.map fI⟩ : AObj)) (yl_store rfl sh3 rfl rfl rfl rfl rfl (ix_get e50) rfl rfl rfl) (ob_eq (map_setV e51))) ?_
  refine tr tbk 4 (.mk ?_)
  refine sY (yv_add (r := 4) rfl rfl rfl (by decide)) ?_
  refine tr tbk 8 (.mk ?_)
  refine sY (yv_to (y := boo false) (yv_lss rfl rfl rfl) (congrArg boo (by decide))) ?_
  refine tr tbk 3 (.mk ?_)
  exact lf h5 () (leH_kn ⟨⟨_, rfl, (.refl _)⟩, ⟨_, rfl, (.refl _)⟩, ⟨_, rfl, (.refl _)⟩, ⟨_, rfl, (.refl _)⟩, ⟨_, rfl, (.refl _)⟩, ⟨_, rfl, (.refl _)⟩, ⟨_, rfl, (.refl _)⟩, trivial⟩ ⟨⟨_, rfl, (.refl _)⟩, ⟨_, rfl, ⟨rfl, (.cons (.cons (.refl _) (.cons (.refl _) (.cons (.refl _) (.cons (.refl _) (.cons (.refl _) (.cons (cv_slen (Eq.symm lx51)) (.cons (.refl _) (.cons (.refl _) .nil)))))))) .nil)⟩⟩, ⟨_, rfl, (.refl _)⟩, ⟨_, rfl, (.refl _)⟩, ⟨_, rfl, (.refl _)⟩, ⟨_, rfl, (.refl _)⟩, ⟨_, rfl, (.refl _)⟩, ⟨_, rfl, (.refl _)⟩, ⟨_, rfl, (.refl _)⟩, ⟨_, rfl, (.refl _)⟩, ⟨_, rfl, (.refl _)⟩, ⟨_, rfl, (.refl _)⟩, ⟨_, rfl, (.refl _)⟩, trivial⟩)
  rintro y1_1 _ h4
  refine tc tbk 4 (.mk ?_)
  refine sY (yv_buildSlice (ps := [(0, _)]) (rows := [[int 1, boo false, .sl 8 v29 0 (Int.toNat 8), .sl 9 v32 0 (Int.toNat 17), .sl 10 v35 0 (Int.toNat 4), .sl 11 v38 0 y1_1.length, .sl 12 v41 0 (Int.toNat 4), .sc (.slice none 0 0)]]) rfl Tryz.underlying27 bz40 (.cons rfl .nil) (by kernel_rfl) rfl rfl rfl) ?_
  refine rse rfl rfl rfl (yl_append0 14 rfl Tryz.underlying27 bz40 by40 rfl rfl rfl (.refl _) (by intro r hr; rcases List.mem_singleton.1 hr with rfl; rfl) (Nat.le_of_ble_eq_true rfl) (Nat.le_of_ble_eq_true rfl)) ?_; rintro _ _ ⟨v52, rfl, rfl⟩
  refine tr tbk 1 (.mk ?_)
  refine sS ⟨32, 10, true, true, v24, [[int 2, int 3, lst 1 fI ([1, 2, 3, 0] : List Int), .sl 3 w0_1 0 y0_3.length, .sl 4 w0_2 0 y0_4.length, .sl 14 v52 0 1, .sc (.slice none 0 0), .sc (.slice none 0 0), .sc (.slice none 0 0), int 0]]⟩ sh27 ?_
  refine tr tbk 2 (.mk ?_)
  exact lf h4 (v52, v29, v32, v35, v38, v41) (leH_kn ⟨⟨_, rfl, (.refl _)⟩, ⟨_, rfl, (.refl _)⟩, ⟨_, rfl, (.refl _)⟩, ⟨_, rfl, (.refl _)⟩, ⟨_, rfl, (.refl _)⟩, ⟨_, rfl, (.refl _)⟩, trivial⟩ ⟨⟨_, rfl, (.refl _)⟩, ⟨_, rfl, (.refl _)⟩, ⟨_, rfl, (.refl _)⟩, ⟨_, rfl, (.refl _)⟩, ⟨_, rfl, (.refl _)⟩, ⟨_, rfl, (.refl _)⟩, ⟨_, rfl, ⟨rfl, (.cons (.cons (.refl _) (.cons (.refl _) (.cons (cv_slen (Eq.symm lx28)) (.cons (cv_slen (Eq.symm lx31)) (.cons (cv_slen (Eq.symm lx34)) (.cons (.refl _) (.cons (cv_slen (Eq.symm lx40)) (.cons (.refl _) .nil)))))))) .nil)⟩⟩, ⟨_, rfl, (.refl _)⟩, ⟨_, rfl, (.refl _)⟩, ⟨_, rfl, (.refl _)⟩, ⟨_, rfl, (.refl _)⟩, ⟨_, rfl, (.refl _)⟩, ⟨_, rfl, (.refl _)⟩, trivial⟩)
  rintro ⟨y2_7, y2_8, y2_9, y2_10, y2_11⟩ ⟨w2_1, w2_2, w2_3, w2_4, w2_5, w2_6⟩ h3
  replace h3 := p2_e h3
  replace h3 := p2_e h3
  replace h3 := p2_e h3
  replace h3 := p2_e h3
  refine tc tbk 2 (.mk ?_)
  refine sY (yv_add (r := 1) rfl rfl rfl (by decide)) ?_
  refine tr tbk 9 (.mk ?_)
  refine sY (yv_to (y := boo true) (yv_lss rfl rfl rfl) (congrArg boo (by decide))) ?_
  refine tr tbk 4 (.mk ?_)
  refine jn h3 [1, 2, 3, 4, 5, 6] [1, 2, 3, 4, 5, 6, 8, 9, 10, 11, 12] (fun (a : (List GPool) × (List Int) × (List GRoll) × (List Int) × (List Int)) (k : Nat × Nat × Nat × Nat × Nat × Nat) => []) (fun a k => [(7, ⟨32, 10, true, true, v24, [[int 2, int 3, lst 1 fI ([1, 2, 3, 0] : List Int), .sl 3 w0_1 0 y0_3.length, .sl 4 w0_2 0 y0_4.length, .sl 14 k.1 0 2, .sc (.slice none 0 0), .sc (.slice none 0 0), .sc (.slice none 0 0), int 0]]⟩), (14, ⟨40, 8, true, true, k.1, [[int 1, boo false, .sl 8 w2_2 0 y2_7.length, .sl 9 w2_3 0 y2_8.length, .sl 10 w2_4 0 y2_9.length, .sl 11 w2_5 0 y2_10.length, .sl 12 w2_6 0 y2_11.length, .sc (.slice none 0 0)], [int 1, boo false, .sl 15 k.2.1 0 a.1.length, .sl 16 k.2.2.1 0 a.2.1.length, .sl 17 k.2.2.2.1 0 a.2.2.1.length, .sl 18 k.2.2.2.2.1 0 a.2.2.2.1.length, .sl 19 k.2.2.2.2.2 0 a.2.2.2.2.length, .sc (.slice none 0 0)]]⟩), (15, ⟨82, 4, true, true, k.2.1, a.1.map GPool.av⟩), (16, ⟨3, 1, true, true, k.2.2.1, a.2.1.map fI⟩), (17, ⟨67, 11, true, true, k.2.2.2.1, a.2.2.1.map GRoll.av⟩), (18, ⟨3, 1, true, true, k.2.2.2.2.1, a.2.2.2.1.map fI⟩), (19, ⟨3, 1, true, true, k.2.2.2.2.2, a.2.2.2.2.map fI⟩)]) ⟨fun j53 h4 => ?_, ?_⟩
  refine tc tbk 2 (.mk ?_)
  refine c_draw [0, 1, 3, 0, 0, 16, 0, 64, 0, 256, 1023, 0, 4095] (fun i k => bif Nat.beq i 12 then (Nat.beq k 13 || Nat.beq k 15 || Nat.beq k 16 || Nat.beq k 17 || Nat.beq k 18 || Nat.beq k 19) else false) (fun i => bif Nat.beq i 2 then (some 15) else bif Nat.beq i 3 then (some 16) else bif Nat.beq i 5 then (some 17) else bif Nat.beq i 7 then (some 18) else bif Nat.beq i 9 then (some 19) else bif Nat.beq i 11 then (some 13) else bif Nat.beq i 12 then (some 13) else none) mixed (by kernel_rfl) ?_; intro C K hK
  refine dg_pure rfl (fun H hH => yv_move rfl rfl) ?_
  refine dg_pure rfl (fun H hH => yv_mul (r := 8) rfl rfl rfl (by decide)) ?_
  obtain ⟨p54, h4⟩ := asrt_e h4
  obtain ⟨x55, e55, h4⟩ := bnd_e h4
  have lx55 : x55.length = (Int.toNat 8) := by rw [← e55]; exact List.length_replicate
  refine dg_eff rfl rfl (fun H hH => yl_one (yl_make 15 (g := GPool.av) (z0 := ((⟨[], (⟨0, 0, 0⟩ : A3_Int)⟩ : GPool) : GPool)) (.one _) rfl Tryz.underlying37 bz82 by82 rfl rfl rfl p54 (.cons (.nil _) (.cons (.sc _) (.cons (.sc _) (.cons (.sc _) .nil)))) e55)) ?_; generalize C + 2 = v56
  obtain ⟨p57, h4⟩ := asrt_e h4
  obtain ⟨x58, e58, h4⟩ := bnd_e h4
  have lx58 : x58.length = (Int.toNat 17) := by rw [← e58]; exact List.length_replicate
  refine dg_eff rfl rfl (fun H hH => yl_one (yl_make 16 (g := fI) (z0 := (0 : Int)) (.one _) rfl Tryz.underlying23 bz3 by3 rfl rfl rfl p57 (.cons (.sc _) .nil) e58)) ?_; generalize C + 3 = v59
  refine dg_pure rfl (fun H hH => yv_move rfl rfl) ?_
  obtain ⟨p60, h4⟩ := asrt_e h4
  obtain ⟨x61, e61, h4⟩ := bnd_e h4
  have lx61 : x61.length = (Int.toNat 4) := by rw [← e61]; exact List.length_replicate
  refine dg_eff rfl rfl (fun H hH => yl_one (yl_make 17 (g := GRoll.av) (z0 := ((⟨0, 0, 0, 0, 0, 0, 0, 0, 0, 0, 0⟩ : GRoll) : GRoll)) (.one _) rfl Tryz.underlying38 bz67 by67 rfl rfl rfl p60 (.cons (.sc _) (.cons (.sc _) (.cons (.sc _) (.cons (.sc _) (.cons (.sc _) (.cons (.sc _) (.cons (.sc _) (.cons (.sc _) (.cons (.sc _) (.cons (.sc _) (.cons (.sc _) .nil))))))))))) e61)) ?_; generalize C + 5 = v62
  refine dg_pure rfl (fun H hH => yv_move rfl rfl) ?_
  obtain ⟨p63, h4⟩ := asrt_e h4
  obtain ⟨x64, e64, h4⟩ := bnd_e h4
  have lx64 : x64.length = (Int.toNat 4) := by rw [← e64]; exact List.length_replicate
  refine dg_eff rfl rfl (fun H hH => yl_one (yl_make 18 (g := fI) (z0 := (0 : Int)) (.one _) rfl Tryz.underlying23 bz3 by3 rfl rfl rfl p63 (.cons (.sc _) .nil) e64)) ?_; generalize C + 7 = v65
  refine dg_pure rfl (fun H hH => yv_move rfl rfl) ?_
  obtain ⟨p66, h4⟩ := asrt_e h4
  obtain ⟨x67, e67, h4⟩ := bnd_e h4
  have lx67 : x67.length = (Int.toNat 4) := by rw [← e67]; exact List.length_replicate
  refine dg_eff rfl rfl (fun H hH => yl_one (yl_make 19 (g := fI) (z0 := (0 : Int)) (.one _) rfl Tryz.underlying23 bz3 by3 rfl rfl rfl p66 (.cons (.sc _) .nil) e67)) ?_; generalize C + 9 = v68
  refine dg_pure rfl (fun H hH => yv_build (cs := [int 1, boo false, .sl 15 v56 0 (Int.toNat 8), .sl 16 v59 0 (Int.toNat 17), .sl 17 v62 0 (Int.toNat 4), .sl 18 v65 0 (Int.toNat 4), .sl 19 v68 0 (Int.toNat 4), .sc (.slice none 0 0)]) (ps := [(0, _), (2, _), (3, _), (4, _), (5, _), (6, _)]) rfl pl40 z40 rfl (.cons rfl (.cons rfl (.cons rfl (.cons rfl (.cons rfl (.cons rfl .nil)))))) (by kernel_rfl)) ?_
  refine dg_eff rfl rfl (fun H hH => yl_alloc1 13 rfl z40 rfl) ?_; generalize C + 11 = v69
  refine dg_store rfl rfl rfl (fun H hH => yl_ob (ob' := (⟨40, 8, true, true, v69, [[int 1, boo false, .sl 15 v56 0 (Int.toNat 8), .sl 16 v59 0 (Int.toNat 17), .sl 17 v62 0 (Int.toNat 4), .sl 18 v65 0 (Int.toNat 4), .sl 19 v68 0 (Int.toNat 4), .sc (.slice none 0 0)]]⟩ : AObj)) (yl_store rfl sh40 rfl rfl ((hH _ rfl).trans rfl) rfl rfl rfl rfl rfl rfl) rfl) ?_
  refine dg_nil (hK _ ?_)
  refine tc tbk 5 (.mk ?_)
  refine jn h4 [1, 2, 3, 4, 5, 6, 7] [1, 2, 3, 4, 5, 6, 7, 8, 9, 10, 11, 12, 14, 15, 16, 17, 19] (fun (a : (List Int)) (k : Unit) => []) (fun a k => [(13, ⟨40, 8, true, true, v69, [[int 1, boo false, .sl 15 v56 0 (Int.toNat 8), .sl 16 v59 0 (Int.toNat 17), .sl 17 v62 0 (Int.toNat 4), .sl 18 v65 0 a.length, .sl 19 v68 0 (Int.toNat 4), .sc (.slice none 0 0)]]⟩), (18, ⟨3, 1, true, true, v65, a.map fI⟩)]) ⟨fun j70 h5 => ?_, ?_⟩
  refine tc tbk 7 (.mk ?_)
  refine sY (yv_to (y := boo true) (yv_lss rfl rfl rfl) (congrArg boo (by decide))) ?_
  refine tr tbk 9 (.mk ?_)
  obtain ⟨x71, e71, h5⟩ := bind_e h5
  refine sY (yv_ixO rfl Tryz.underlying23 sh3 rfl rfl rfl rfl rfl (Eq.symm lx64) (List.length_map _) e71) ?_
  obtain ⟨x72, e72, h5⟩ := bnd_e h5
  have fx72 := ix_set e71 e72; have lx72 := len_setV e72 lx64
  refine rsstore rfl rfl (yl_ob (ob' := (⟨3, 1, true, true, v65, x72.map fI⟩ : AObj)) (yl_store rfl sh3 rfl rfl rfl rfl rfl (ix_get e71) rfl rfl rfl) (ob_eq (map_setV e72))) ?_
  refine tr tbk 4 (.mk ?_)
  refine sY (yv_add (r := 1) rfl rfl rfl (by decide)) ?_
  refine tr tbk 8 (.mk ?_)
  refine sY (yv_to (y := boo true) (yv_lss rfl rfl rfl) (congrArg boo (by decide))) ?_
  refine tr tbk 9 (.mk ?_)
  obtain ⟨x73, e73, h5⟩ := bind_e h5
  refine sY (yv_ixO rfl Tryz.underlying23 sh3 rfl rfl rfl rfl rfl (Eq.symm lx72) (List.length_map _) e73) ?_
  obtain ⟨x74, e74, h5⟩ := bnd_e h5
  have fx74 := ix_set e73 e74; have lx74 := len_setV e74 lx72
  refine rsstore rfl rfl (yl_ob (ob' := (⟨3, 1, true, true, v65, x74.map fI⟩ : AObj)) (yl_store rfl sh3 rfl rfl rfl rfl rfl (ix_get e73) rfl rfl rfl) (ob_eq (map_setV e74))) ?_
  refine tr tbk 4 (.mk ?_)
  refine sY (yv_add (r := 2) rfl rfl rfl (by decide)) ?_
  refine tr tbk 8 (.mk ?_)
  refine sY (yv_to (y := boo true) (yv_lss rfl rfl rfl) (congrArg boo (by decide))) ?_
  refine tr tbk 9 (.mk ?_)
  obtain ⟨x75, e75, h5⟩ := bind_e h5
  refine sY (yv_ixO rfl Tryz.underlying23 sh3 rfl rfl rfl rfl rfl (Eq.symm lx74) (List.length_map _) e75) ?_
  obtain ⟨x76, e76, h5⟩ := bnd_e h5
  have fx76 := ix_set e75 e76; have lx76 := len_setV e76 lx74
  refine rsstore rfl rfl (yl_ob (ob' := (⟨3, 1, true, true, v65, x76.map fI⟩ : AObj)) (yl_store rfl sh3 rfl rfl rfl rfl rfl (ix_get e75) rfl rfl rfl) (ob_eq (map_setV e76))) ?_
  refine tr tbk 4 (.mk ?_)
  refine sY (yv_add (r := 3) rfl rfl rfl (by decide)) ?_
  refine tr tbk 8 (.mk ?_)
  refine sY (yv_to (y := boo true) (yv_lss rfl rfl rfl) (congrArg boo (by decide))) ?_
  refine tr tbk 9 (.mk ?_)
  obtain ⟨x77, e77, h5⟩ := bind_e h5
  refine sY (yv_ixO rfl Tryz.underlying23 sh3 rfl rfl rfl rfl rfl (Eq.symm lx76) (List.length_map _) e77) ?_
  obtain ⟨x78, e78, h5⟩ := bnd_e h5
  have fx78 := ix_set e77 e78; have lx78 := len_setV e78 lx76
  refine rsstore rfl rfl (yl_ob (ob' := (⟨3, 1, true, true, v65, x78.map fI⟩ : AObj)) (yl_store rfl sh3 rfl rfl rfl rfl rfl (ix_get e77) rfl rfl rfl) (ob_eq (map_setV e78))) ?_
  refine tr tbk 4 (.mk ?_)
  refine sY (yv_add (r := 4) rfl rfl rfl (by decide)) ?_
  refine tr tbk 8 (.mk ?_)
  refine sY (yv_to (y := boo false) (yv_lss rfl rfl rfl) (congrArg boo (by decide))) ?_
  refine tr tbk 3 (.mk ?_)
  exact lf h5 () (leH_kn ⟨⟨_, rfl, (.refl _)⟩, ⟨_, rfl, (.refl _)⟩, ⟨_, rfl, (.refl _)⟩, ⟨_, rfl, (.refl _)⟩, ⟨_, rfl, (.refl _)⟩, ⟨_, rfl, (.refl _)⟩, ⟨_, rfl, (.refl _)⟩, trivial⟩ ⟨⟨_, rfl, ⟨rfl, (.cons (.cons (.refl _) (.cons (.refl _) (.cons (.refl _) (.cons (.refl _) (.cons (.refl _) (.cons (cv_slen (Eq.symm lx78)) (.cons (.refl _) (.cons (.refl _) .nil)))))))) .nil)⟩⟩, ⟨_, rfl, (.refl _)⟩, ⟨_, rfl, (.refl _)⟩, ⟨_, rfl, (.refl _)⟩, ⟨_, rfl, (.refl _)⟩, ⟨_, rfl, (.refl _)⟩, ⟨_, rfl, (.refl _)⟩, ⟨_, rfl, (.refl _)⟩, ⟨_, rfl, (.refl _)⟩, ⟨_, rfl, (.refl _)⟩, ⟨_, rfl, (.refl _)⟩, ⟨_, rfl, (.refl _)⟩, ⟨_, rfl, (.refl _)⟩, ⟨_, rfl, (.refl _)⟩, ⟨_, rfl, (.refl _)⟩, ⟨_, rfl, (.refl _)⟩, ⟨_, rfl, (.refl _)⟩, ⟨_, rfl, (.refl _)⟩, ⟨_, rfl, (.refl _)⟩, trivial⟩)
  rintro y1_1 _ h4
  refine tc tbk 4 (.mk ?_)
  refine sY (yv_buildSlice (ps := [(0, _)]) (rows := [[int 1, boo false, .sl 15 v56 0 (Int.toNat 8), .sl 16 v59 0 (Int.toNat 17), .sl 17 v62 0 (Int.toNat 4), .sl 18 v65 0 y1_1.length, .sl 19 v68 0 (Int.toNat 4), .sc (.slice none 0 0)]]) rfl Tryz.underlying27 bz40 (.cons rfl .nil) (by kernel_rfl) rfl rfl rfl) ?_
  refine rse rfl rfl rfl (yl_append .any rfl Tryz.underlying27 bz40 by40 rfl rfl rfl rfl rfl rfl rfl rfl rfl (.refl _) (by intro r hr; rcases List.mem_singleton.1 hr with rfl; rfl) (Nat.le_of_ble_eq_true rfl) (Nat.le_of_ble_eq_true rfl)) ?_; rintro _ _ ⟨v79, -, rfl, rfl⟩
  refine tr tbk 1 (.mk ?_)
  refine sS ⟨32, 10, true, true, v24, [[int 2, int 3, lst 1 fI ([1, 2, 3, 0] : List Int), .sl 3 w0_1 0 y0_3.length, .sl 4 w0_2 0 y0_4.length, .sl 14 v79 0 2, .sc (.slice none 0 0), .sc (.slice none 0 0), .sc (.slice none 0 0), int 0]]⟩ sh27 ?_
  refine tr tbk 2 (.mk ?_)
  exact lf h4 (v79, v56, v59, v62, v65, v68) (leH_kn ⟨⟨_, rfl, (.refl _)⟩, ⟨_, rfl, (.refl _)⟩, ⟨_, rfl, (.refl _)⟩, ⟨_, rfl, (.refl _)⟩, ⟨_, rfl, (.refl _)⟩, ⟨_, rfl, (.refl _)⟩, trivial⟩ ⟨⟨_, rfl, (.refl _)⟩, ⟨_, rfl, ⟨rfl, (.cons (.cons (.refl _) (.cons (.refl _) (.cons (.refl _) (.cons (.refl _) (.cons (.refl _) (.cons (.refl _) (.cons (.refl _) (.cons (.refl _) .nil)))))))) (.cons (.cons (.refl _) (.cons (.refl _) (.cons (cv_slen (Eq.symm lx55)) (.cons (cv_slen (Eq.symm lx58)) (.cons (cv_slen (Eq.symm lx61)) (.cons (.refl _) (.cons (cv_slen (Eq.symm lx67)) (.cons (.refl _) .nil)))))))) .nil))⟩⟩, ⟨_, rfl, (.refl _)⟩, ⟨_, rfl, (.refl _)⟩, ⟨_, rfl, (.refl _)⟩, ⟨_, rfl, (.refl _)⟩, ⟨_, rfl, (.refl _)⟩, ⟨_, rfl, (.refl _)⟩, ⟨_, rfl, (.refl _)⟩, ⟨_, rfl, (.refl _)⟩, ⟨_, rfl, (.refl _)⟩, ⟨_, rfl, (.refl _)⟩, ⟨_, rfl, (.refl _)⟩, ⟨_, rfl, (.refl _)⟩, ⟨_, rfl, (.refl _)⟩, ⟨_, rfl, (.refl _)⟩, ⟨_, rfl, (.refl _)⟩, ⟨_, rfl, (.refl _)⟩, trivial⟩)
  rintro ⟨y2_7_1, y2_8_1, y2_9_1, y2_10_1, y2_11_1⟩ ⟨w2_1_1, w2_2_1, w2_3_1, w2_4_1, w2_5_1, w2_6_1⟩ h3
  replace h3 := p2_e h3
  replace h3 := p2_e h3
  replace h3 := p2_e h3
  replace h3 := p2_e h3
  refine tc tbk 2 (.mk ?_)
  refine sY (yv_add (r := 2) rfl rfl rfl (by decide)) ?_
  refine tr tbk 9 (.mk ?_)
  refine sY (yv_to (y := boo false) (yv_lss rfl rfl rfl) (congrArg boo (by decide))) ?_
  refine tr tbk 3 (.mk ?_)
  exact lf h3 (w2_1_1, w2_2, w2_3, w2_4, w2_5, w2_6, w2_2_1, w2_3_1, w2_4_1, w2_5_1, w2_6_1) leA
  rintro ⟨y3_12, y3_13, y3_14, y3_15, y3_16, y3_17, y3_18, y3_19, y3_20, y3_21⟩ ⟨w3_1, w3_2, w3_3, w3_4, w3_5, w3_6, w3_7, w3_8, w3_9, w3_10, w3_11⟩ h2
  replace h2 := p2_e h2
  replace h2 := p2_e h2
  replace h2 := p2_e h2
  replace h2 := p2_e h2
  replace h2 := p2_e h2
  replace h2 := p2_e h2
  replace h2 := p2_e h2
  replace h2 := p2_e h2
  replace h2 := p2_e h2
  refine tc tbk 3 (.mk ?_)
  refine sS ⟨32, 10, true, true, v21, [[int 2, int 3, lst 1 fI ([1, 2, 3, 0] : List Int), .sl 3 w0_1 0 y0_3.length, .sl 4 w0_2 0 y0_4.length, .sl 14 w3_1 0 2, .sc (.slice none 0 0), .sc (.slice none 0 0), .sc (.slice none 0 0), int 0]]⟩ sh32 ?_
  refine tr tbk 2 (.mk ?_)
  obtain rfl := nxt_e h2
  refine w_ret (hret _ _ (hk [(1, ⟨32, 10, true, true, v6, [[int 0, int 0, .sc (.slice none 0 0), .sc (.slice none 0 0), .sc (.slice none 0 0), .sc (.slice none 0 0), .sc (.slice none 0 0), .sc (.slice none 0 0), .sc (.slice none 0 0), int 0]]⟩), (2, ⟨26, 5, true, true, v7, [[int 2, int 3, lst 1 fI ([1, 2, 3, 0] : List Int), .sl 3 w0_1 0 y0_3.length, .sl 4 w0_2 0 y0_4.length]]⟩), (3, ⟨23, 1, true, true, w0_1, y0_3.map (fL 1 fI)⟩), (4, ⟨23, 1, true, true, w0_2, y0_4.map (fL 1 fI)⟩), (8, ⟨82, 4, true, true, w3_2, y3_12.map GPool.av⟩), (9, ⟨3, 1, true, true, w3_3, y3_13.map fI⟩), (10, ⟨67, 11, true, true, w3_4, y3_14.map GRoll.av⟩), (11, ⟨3, 1, true, true, w3_5, y3_15.map fI⟩), (12, ⟨3, 1, true, true, w3_6, y3_16.map fI⟩), (14, ⟨40, 8, true, true, w3_1, [[int 1, boo false, .sl 8 w3_2 0 y3_12.length, .sl 9 w3_3 0 y3_13.length, .sl 10 w3_4 0 y3_14.length, .sl 11 w3_5 0 y3_15.length, .sl 12 w3_6 0 y3_16.length, .sc (.slice none 0 0)], [int 1, boo false, .sl 15 w3_7 0 y3_17.length, .sl 16 w3_8 0 y3_18.length, .sl 17 w3_9 0 y3_19.length, .sl 18 w3_10 0 y3_20.length, .sl 19 w3_11 0 y3_21.length, .sc (.slice none 0 0)]]⟩), (15, ⟨82, 4, true, true, w3_7, y3_17.map GPool.av⟩), (16, ⟨3, 1, true, true, w3_8, y3_18.map fI⟩), (17, ⟨67, 11, true, true, w3_9, y3_19.map GRoll.av⟩), (18, ⟨3, 1, true, true, w3_10, y3_20.map fI⟩), (19, ⟨3, 1, true, true, w3_11, y3_21.map fI⟩)]) (.cell rfl (.pt rfl rfl rfl) sh32 rfl (.tmp rfl .nil)) (HK.le ⟨rfl, rfl, rfl, rfl, rfl, rfl, rfl, rfl, rfl, rfl, rfl, rfl, rfl, rfl, rfl, trivial⟩) ?_)
  exact ⟨(y3_12, y3_13, y3_14, y3_15, y3_16, y3_17, y3_18, y3_19, y3_20, y3_21), (w3_1, w3_2, w3_3, w3_4, w3_5, w3_6, w3_7, w3_8, w3_9, w3_10, w3_11), rfl, rfl, rfl⟩
  rintro y _ ⟨⟨y4_12, y4_13, y4_14, y4_15, y4_16, y4_17, y4_18, y4_19, y4_20, y4_21⟩, ⟨w4_1, w4_2, w4_3, w4_4, w4_5, w4_6, w4_7, w4_8, w4_9, w4_10, w4_11⟩, rfl, hc, rfl⟩
  replace h1 := p2_e h1
  replace h1 := p2_e h1
  replace h1 := p2_e h1
  replace h1 := p2_e h1
  replace h1 := p2_e h1
  replace h1 := p2_e h1
  replace h1 := p2_e h1
  replace h1 := p2_e h1
  replace h1 := p2_e h1
  subst hc
  refine tr tbk 3 (.mk ?_)
  refine sA 20 z32 fun v80 => ?_
  refine sS ⟨32, 10, true, true, v80, [[int 2, int 3, lst 1 fI ([1, 2, 3, 0] : List Int), .sl 3 w0_1 0 y0_3.length, .sl 4 w0_2 0 y0_4.length, .sl 14 w4_1 0 2, .sc (.slice none 0 0), .sc (.slice none 0 0), .sc (.slice none 0 0), int 0]]⟩ sh32 ?_
  refine tr tbk 5 (.mk ?_)
  refine sS ⟨32, 10, true, true, v6, [[int 2, int 3, lst 1 fI ([1, 2, 3, 0] : List Int), .sl 3 w0_1 0 y0_3.length, .sl 4 w0_2 0 y0_4.length, .sl 14 w4_1 0 2, .sc (.slice none 0 0), .sc (.slice none 0 0), .sc (.slice none 0 0), int 0]]⟩ sh32 ?_
  refine tr tbk 1 (.mk ?_)
  obtain rfl := nxt_e h1
  refine w_ret (hret _ _ (hk [(3, ⟨23, 1, true, true, w0_1, y0_3.map (fL 1 fI)⟩), (4, ⟨23, 1, true, true, w0_2, y0_4.map (fL 1 fI)⟩), (8, ⟨82, 4, true, true, w4_2, y4_12.map GPool.av⟩), (9, ⟨3, 1, true, true, w4_3, y4_13.map fI⟩), (10, ⟨67, 11, true, true, w4_4, y4_14.map GRoll.av⟩), (11, ⟨3, 1, true, true, w4_5, y4_15.map fI⟩), (12, ⟨3, 1, true, true, w4_6, y4_16.map fI⟩), (14, ⟨40, 8, true, true, w4_1, [[int 1, boo false, .sl 8 w4_2 0 y4_12.length, .sl 9 w4_3 0 y4_13.length, .sl 10 w4_4 0 y4_14.length, .sl 11 w4_5 0 y4_15.length, .sl 12 w4_6 0 y4_16.length, .sc (.slice none 0 0)], [int 1, boo false, .sl 15 w4_7 0 y4_17.length, .sl 16 w4_8 0 y4_18.length, .sl 17 w4_9 0 y4_19.length, .sl 18 w4_10 0 y4_20.length, .sl 19 w4_11 0 y4_21.length, .sc (.slice none 0 0)]]⟩), (15, ⟨82, 4, true, true, w4_7, y4_17.map GPool.av⟩), (16, ⟨3, 1, true, true, w4_8, y4_18.map fI⟩), (17, ⟨67, 11, true, true, w4_9, y4_19.map GRoll.av⟩), (18, ⟨3, 1, true, true, w4_10, y4_20.map fI⟩), (19, ⟨3, 1, true, true, w4_11, y4_21.map fI⟩)]) (.cell rfl (.pt rfl rfl rfl) sh32 rfl .nil) (HK.le ⟨rfl, rfl, rfl, rfl, rfl, rfl, rfl, rfl, rfl, rfl, rfl, rfl, rfl, trivial⟩) ?_)
  exact ⟨(y0_3, y0_4, y4_12, y4_13, y4_14, y4_15, y4_16, y4_17, y4_18, y4_19, y4_20, y4_21), (w0_1, w0_2, w4_1, w4_2, w4_3, w4_4, w4_5, w4_6, w4_7, w4_8, w4_9, w4_10, w4_11), rfl, rfl, rfl⟩
  rintro y _ ⟨⟨y5_4, y5_5, y5_16, y5_17, y5_18, y5_19, y5_20, y5_21, y5_22, y5_23, y5_24, y5_25⟩, ⟨w5_1, w5_2, w5_3, w5_6, w5_7, w5_8, w5_9, w5_10, w5_11, w5_12, w5_13, w5_14, w5_15⟩, rfl, hc, rfl⟩
  replace h0 := p2_e h0
  replace h0 := p2_e h0
  replace h0 := p2_e h0
  replace h0 := p2_e h0
  replace h0 := p2_e h0
  replace h0 := p2_e h0
  replace h0 := p2_e h0
  replace h0 := p2_e h0
  replace h0 := p2_e h0
  replace h0 := p2_e h0
  replace h0 := p2_e h0
  subst hc
  refine sA 21 z32 fun v81 => ?_
  refine sS ⟨32, 10, true, true, v81, [[int 2, int 3, lst 1 fI ([1, 2, 3, 0] : List Int), .sl 3 w5_1 0 y5_4.length, .sl 4 w5_2 0 y5_5.length, .sl 14 w5_3 0 2, .sc (.slice none 0 0), .sc (.slice none 0 0), .sc (.slice none 0 0), int 0]]⟩ sh32 ?_
  refine tr tbk 4 (.mk ?_)
  refine sY (yv_build (cs := [int 1, int 2, int 0, int 0, int 0, int x4, int 0, int 0, .sc (.slice none 0 0)]) (ps := [(0, _), (1, _), (5, _)]) rfl pl35 z35 rfl (.cons rfl (.cons rfl (.cons rfl .nil))) (by kernel_rfl)) ?_
  refine sA 22 z35 fun v82 => ?_
  refine sS ⟨35, 9, true, true, v82, [[int 1, int 2, int 0, int 0, int 0, int x4, int 0, int 0, .sc (.slice none 0 0)]]⟩ sh35 ?_
  refine tr tbk 6 (.mk ?_)
  obtain ⟨x83, e83, h0⟩ := bind_e h0
  refine sC cal6 (d_law00_Place_c e83) ?_
  refine tr tbk 4 (.mk ?_)
  refine nb tbk h0 fun x84 h0 => ?_
  refine tr tbk 2 (.mk ?_)
  cases x84
  replace h0 := cf h0
  refine tc tbk 3 (.mk ?_)
  refine nb tbk h0 fun x85 h0 => ?_
  refine tr tbk 2 (.mk ?_)
  cases x85
  replace h0 := cf h0
  refine tc tbk 3 (.mk ?_)
  refine nb tbk h0 fun x86 h0 => ?_
  refine tr tbk 2 (.mk ?_)
  cases x86
  replace h0 := cf h0
  refine tc tbk 3 (.mk ?_)
  refine nb tbk h0 fun x87 h0 => ?_
  refine tr tbk 2 (.mk ?_)
  cases x87
  replace h0 := cf h0
  refine tc tbk 7 (.mk ?_)
  obtain ⟨x88, e88, h0⟩ := bind_e h0
  refine rse rfl rfl rfl (Yield.frz 3 rfl (Yield.frz 4 rfl (Yield.frz 14 rfl (Yield.frz 8 rfl (Yield.frz 9 rfl (Yield.frz 10 rfl (Yield.frz 11 rfl (Yield.frz 12 rfl (Yield.frz 15 rfl (Yield.frz 16 rfl (Yield.frz 17 rfl (Yield.frz 18 rfl (Yield.frz 19 rfl (Yield.weak (yv_callP rfl rfl (.cons rfl (.cons rfl .nil)) cal8 (.cons (CvL.agg (.cons (.refl _) (.cons (.refl _) (.cons (.refl _) (.cons (cv_lst rfl rfl rfl rfl rfl (Eq.symm rfl)) (.cons (cv_lst rfl rfl rfl rfl rfl (Eq.symm rfl)) (.cons (Cv.sl (rows := [GEnt.av (⟨1, false, y5_16, y5_17, y5_18, y5_19, y5_20, []⟩ : GEnt), GEnt.av (⟨1, false, y5_21, y5_22, y5_23, y5_24, y5_25, []⟩ : GEnt)]) rfl rfl rfl (.cons (cvl_to (.cons (.refl _) (.cons (.refl _) (.cons (cv_lst rfl rfl rfl rfl rfl (Eq.symm rfl)) (.cons (cv_lst rfl rfl rfl rfl rfl (Eq.symm rfl)) (.cons (cv_lst rfl rfl rfl rfl rfl (Eq.symm rfl)) (.cons (cv_lst rfl rfl rfl rfl rfl (Eq.symm rfl)) (.cons (cv_lst rfl rfl rfl rfl rfl (Eq.symm rfl)) (.cons (.nil _) .nil)))))))) (GEnt.av_eq _)) (.cons (cvl_to (.cons (.refl _) (.cons (.refl _) (.cons (cv_lst rfl rfl rfl rfl rfl (Eq.symm rfl)) (.cons (cv_lst rfl rfl rfl rfl rfl (Eq.symm rfl)) (.cons (cv_lst rfl rfl rfl rfl rfl (Eq.symm rfl)) (.cons (cv_lst rfl rfl rfl rfl rfl (Eq.symm rfl)) (.cons (cv_lst rfl rfl rfl rfl rfl (Eq.symm rfl)) (.cons (.nil _) .nil)))))))) (GEnt.av_eq _)) .nil)) (Nat.le_of_ble_eq_true rfl)) (.cons (.nil _) (.cons (.nil _) (.cons (.nil _) (.cons (.refl _) .nil))))))))))) (.cons (CvL.agg (.cons (.refl _) (.cons (.refl _) (.cons (.refl _) (.cons (.refl _) (.cons (.refl _) (.cons (.refl _) (.cons (.refl _) (.cons (.refl _) (.cons (.nil _) .nil)))))))))) .nil)) (d_receive_Do_c e88)) (fun _ h => h) (fun _ h => h.elim))))))))))))))) ?_; rintro _ _ ⟨rfl, rfl⟩
  refine tr tbk 3 (.mk ?_)
  refine sA 24 z32 fun v89 => ?_
  refine sS ⟨32, 10, true, true, v89, [(GState.av x88.1)]⟩ sh32 ?_
  refine tr tbk 3 (.mk ?_)
  refine jn h0 [] [] (fun (a : Bool) (k : Unit) => [(4, boo a)]) (fun a k => []) ⟨fun j90 h1 => ?_, ?_⟩
  refine tc tbk 3 (.mk ?_)
  refine nb tbk h1 fun x91 h1 => ?_
  refine tr tbk 1 (.mk ?_)
  cases x91
  replace h1 := cf h1
  refine tr tbk 9 (.mk ?_)
  exact lf h1 () leA
  replace h1 := ct h1
  refine tr tbk 2 (.mk ?_)
  obtain ⟨x92, e92, h1⟩ := bind_e h1
  refine sY (yv_callP rfl rfl (.cons rfl (.cons rfl .nil)) cal9 (.cons (CvL.agg (.cons (.refl _) (.cons (.refl _) (.cons (.refl _) (.cons (cv_lst rfl rfl rfl rfl rfl (Eq.symm rfl)) (.cons (cv_lst rfl rfl rfl rfl rfl (Eq.symm rfl)) (.cons (Cv.sl (rows := [GEnt.av (⟨1, false, y5_16, y5_17, y5_18, y5_19, y5_20, []⟩ : GEnt), GEnt.av (⟨1, false, y5_21, y5_22, y5_23, y5_24, y5_25, []⟩ : GEnt)]) rfl rfl rfl (.cons (cvl_to (.cons (.refl _) (.cons (.refl _) (.cons (cv_lst rfl rfl rfl rfl rfl (Eq.symm rfl)) (.cons (cv_lst rfl rfl rfl rfl rfl (Eq.symm rfl)) (.cons (cv_lst rfl rfl rfl rfl rfl (Eq.symm rfl)) (.cons (cv_lst rfl rfl rfl rfl rfl (Eq.symm rfl)) (.cons (cv_lst rfl rfl rfl rfl rfl (Eq.symm rfl)) (.cons (.nil _) .nil)))))))) (GEnt.av_eq _)) (.cons (cvl_to (.cons (.refl _) (.cons (.refl _) (.cons (cv_lst rfl rfl rfl rfl rfl (Eq.symm rfl)) (.cons (cv_lst rfl rfl rfl rfl rfl (Eq.symm rfl)) (.cons (cv_lst rfl rfl rfl rfl rfl (Eq.symm rfl)) (.cons (cv_lst rfl rfl rfl rfl rfl (Eq.symm rfl)) (.cons (cv_lst rfl rfl rfl rfl rfl (Eq.symm rfl)) (.cons (.nil _) .nil)))))))) (GEnt.av_eq _)) .nil)) (Nat.le_of_ble_eq_true rfl)) (.cons (.nil _) (.cons (.nil _) (.cons (.nil _) (.cons (.refl _) .nil))))))))))) (.cons (.refl _) .nil)) (d_ref14_Same_c e92)) ?_
  refine tr tbk 2 (.mk ?_)
  cases x92
  replace h1 := cf h1
  refine tr tbk 4 (.mk ?_)
  exact lf h1 () leA
  replace h1 := ct h1
  obtain ⟨x93, e93, h1⟩ := bind_e h1
  refine sC cal10 (d_law15_awake_c e93) ?_
  refine tr tbk 3 (.mk ?_)
  exact lf h1 () leA
  rintro y6_1 _ h0
  obtain rfl := nxt_e h0
  refine wR hret (rT .nil) ?_
  exact .refl _
  replace h0 := ct h0
  refine tc tbk 2 (.mk ?_)
  refine c_drawE [0, 1, 3, 7, 15, 0, 32, 96, 224, 480, 1023, 2047, 4095, 8191] (rl [(0, [21]), (1, [21]), (2, [14]), (3, [14]), (4, [14]), (5, [21]), (6, [21]), (7, [14]), (8, [14]), (9, [14]), (10, [9]), (12, [9])] []) (rl [(11, []), (13, [])] [9, 14, 21]) (rl [(11, false), (13, false)] true) [0, 1, 2, 3, 4, 5, 6, 7, 8, 9, 10, 11, 12, 13] mixed (by kernel_rfl) ?_; intro K hK
  refine eF fo32_1 ?_
  refine eL sh27 ?_
  refine de_pure rfl rfl rfl rfl (fun H hH => yv_indexAddr (j := 0) rfl Tryz.underlying27 sh40 rfl rfl rfl (.sl ((hH _ (by decide)).trans rfl) rfl rfl (Nat.le_of_ble_eq_true rfl) (Nat.le_of_ble_eq_true rfl))) ?_
  refine eF fo40_3 ?_
  refine eL sh23 ?_
  refine eF fo32_1 ?_
  refine eL sh27 ?_
  refine de_pure rfl rfl rfl rfl (fun H hH => yv_indexAddr (j := 0) rfl Tryz.underlying27 sh40 rfl rfl rfl (.sl ((hH _ (by decide)).trans rfl) rfl rfl (Nat.le_of_ble_eq_true rfl) (Nat.le_of_ble_eq_true rfl))) ?_
  refine eF fo40_3 ?_
  refine eL sh23 ?_
  obtain ⟨x94, e94, h0⟩ := bind_e h0
  refine de_pure rfl rfl rfl rfl (fun H hH => yv_ixO rfl Tryz.underlying23 sh3 rfl rfl ((hH _ (by decide)).trans rfl) rfl rfl (Eq.symm rfl) (List.length_map _) e94) ?_
  obtain ⟨x95, e95, h0⟩ := bnd_e h0
  have fx95 := ix_set e94 e95; have lx95 := len_setV e95 (rfl : y5_17.length = y5_17.length)
  refine de_eff0 rfl rfl rfl rfl (Yield.weak (yl_ob (ob' := (⟨3, 1, true, true, w5_7, x95.map fI⟩ : AObj)) (yl_store rfl sh3 rfl rfl rfl rfl rfl (ix_get e94) rfl rfl rfl) (ob_eq (map_setV e95))) (fun _ h => h) (fun _ _ => trivial)) (by rintro _ _ ⟨rfl, rfl⟩; exact trivial) ?_; rintro _ _ ⟨rfl, rfl⟩
  obtain ⟨x96, e96, h0⟩ := bind_e h0
  refine de_pure rfl rfl rfl rfl (fun H hH => yv_ixO rfl Tryz.underlying23 sh3 rfl rfl ((hH _ (by decide)).trans rfl) rfl rfl (Eq.symm lx95) (List.length_map _) e96) ?_
  obtain ⟨x97, e97, h0⟩ := bnd_e h0
  have fx97 := ix_set e96 e97; have lx97 := len_setV e97 lx95
  refine de_eff0 rfl rfl rfl rfl (Yield.weak (yl_ob (ob' := (⟨3, 1, true, true, w5_7, x97.map fI⟩ : AObj)) (yl_store rfl sh3 rfl rfl rfl rfl rfl (ix_get e96) rfl rfl rfl) (ob_eq (map_setV e97))) (fun _ h => h) (fun _ _ => trivial)) (by rintro _ _ ⟨rfl, rfl⟩; exact trivial) ?_; rintro _ _ ⟨rfl, rfl⟩
  refine de_nil (hK _ ?_)
  refine tc tbk 3 (.mk ?_)
  refine sY (yv_build (cs := [int 1, int 0, int 0, int 0, int 0, int x4, int x4, int 0, .sc (.slice none 0 0)]) (ps := [(0, _), (5, _), (6, _)]) rfl pl35 z35 rfl (.cons rfl (.cons rfl (.cons rfl .nil))) (by kernel_rfl)) ?_
  refine sS ⟨35, 9, true, true, v82, [[int 1, int 0, int 0, int 0, int 0, int x4, int x4, int 0, .sc (.slice none 0 0)]]⟩ sh35 ?_
  refine tr tbk 7 (.mk ?_)
  obtain ⟨x98, e98, h0⟩ := bind_e h0
  refine rse rfl rfl rfl (Yield.frz 3 rfl (Yield.frz 4 rfl (Yield.frz 14 rfl (Yield.frz 8 rfl (Yield.frz 9 rfl (Yield.frz 10 rfl (Yield.frz 11 rfl (Yield.frz 12 rfl (Yield.frz 15 rfl (Yield.frz 16 rfl (Yield.frz 17 rfl (Yield.frz 18 rfl (Yield.frz 19 rfl (Yield.weak (yv_callP rfl rfl (.cons rfl (.cons rfl .nil)) cal8 (.cons (CvL.agg (.cons (.refl _) (.cons (.refl _) (.cons (.refl _) (.cons (cv_lst rfl rfl rfl rfl rfl (Eq.symm rfl)) (.cons (cv_lst rfl rfl rfl rfl rfl (Eq.symm rfl)) (.cons (Cv.sl (rows := [GEnt.av (⟨1, false, y5_16, x97, y5_18, y5_19, y5_20, []⟩ : GEnt), GEnt.av (⟨1, false, y5_21, y5_22, y5_23, y5_24, y5_25, []⟩ : GEnt)]) rfl rfl rfl (.cons (cvl_to (.cons (.refl _) (.cons (.refl _) (.cons (cv_lst rfl rfl rfl rfl rfl (Eq.symm rfl)) (.cons (cv_lst rfl rfl rfl rfl rfl (Eq.symm lx97)) (.cons (cv_lst rfl rfl rfl rfl rfl (Eq.symm rfl)) (.cons (cv_lst rfl rfl rfl rfl rfl (Eq.symm rfl)) (.cons (cv_lst rfl rfl rfl rfl rfl (Eq.symm rfl)) (.cons (.nil _) .nil)))))))) (GEnt.av_eq _)) (.cons (cvl_to (.cons (.refl _) (.cons (.refl _) (.cons (cv_lst rfl rfl rfl rfl rfl (Eq.symm rfl)) (.cons (cv_lst rfl rfl rfl rfl rfl (Eq.symm rfl)) (.cons (cv_lst rfl rfl rfl rfl rfl (Eq.symm rfl)) (.cons (cv_lst rfl rfl rfl rfl rfl (Eq.symm rfl)) (.cons (cv_lst rfl rfl rfl rfl rfl (Eq.symm rfl)) (.cons (.nil _) .nil)))))))) (GEnt.av_eq _)) .nil)) (Nat.le_of_ble_eq_true rfl)) (.cons (.nil _) (.cons (.nil _) (.cons (.nil _) (.cons (.refl _) .nil))))))))))) (.cons (CvL.agg (.cons (.refl _) (.cons (.refl _) (.cons (.refl _) (.cons (.refl _) (.cons (.refl _) (.cons (.refl _) (.cons (.refl _) (.cons (.refl _) (.cons (.nil _) .nil)))))))))) .nil)) (d_receive_Do_c e98)) (fun _ h => h) (fun _ h => h.elim))))))))))))))) ?_; rintro _ _ ⟨rfl, rfl⟩
  refine tr tbk 3 (.mk ?_)
  refine sA 24 z32 fun v99 => ?_
  refine sS ⟨32, 10, true, true, v99, [(GState.av x98.1)]⟩ sh32 ?_
  refine tr tbk 3 (.mk ?_)
  refine jn h0 [] [] (fun (a : Bool) (k : Unit) => [(4, boo a)]) (fun a k => []) ⟨fun j100 h1 => ?_, ?_⟩
  refine tc tbk 3 (.mk ?_)
  refine nb tbk h1 fun x101 h1 => ?_
  refine tr tbk 1 (.mk ?_)
  cases x101
  replace h1 := cf h1
  refine tr tbk 9 (.mk ?_)
  exact lf h1 () leA
  replace h1 := ct h1
  refine tr tbk 2 (.mk ?_)
  obtain ⟨x102, e102, h1⟩ := bind_e h1
  refine sY (yv_callP rfl rfl (.cons rfl (.cons rfl .nil)) cal9 (.cons (CvL.agg (.cons (.refl _) (.cons (.refl _) (.cons (.refl _) (.cons (cv_lst rfl rfl rfl rfl rfl (Eq.symm rfl)) (.cons (cv_lst rfl rfl rfl rfl rfl (Eq.symm rfl)) (.cons (Cv.sl (rows := [GEnt.av (⟨1, false, y5_16, x97, y5_18, y5_19, y5_20, []⟩ : GEnt), GEnt.av (⟨1, false, y5_21, y5_22, y5_23, y5_24, y5_25, []⟩ : GEnt)]) rfl rfl rfl (.cons (cvl_to (.cons (.refl _) (.cons (.refl _) (.cons (cv_lst rfl rfl rfl rfl rfl (Eq.symm rfl)) (.cons (cv_lst rfl rfl rfl rfl rfl (Eq.symm lx97)) (.cons (cv_lst rfl rfl rfl rfl rfl (Eq.symm rfl)) (.cons (cv_lst rfl rfl rfl rfl rfl (Eq.symm rfl)) (.cons (cv_lst rfl rfl rfl rfl rfl (Eq.symm rfl)) (.cons (.nil _) .nil)))))))) (GEnt.av_eq _)) (.cons (cvl_to (.cons (.refl _) (.cons (.refl _) (.cons (cv_lst rfl rfl rfl rfl rfl (Eq.symm rfl)) (.cons (cv_lst rfl rfl rfl rfl rfl (Eq.symm rfl)) (.cons (cv_lst rfl rfl rfl rfl rfl (Eq.symm rfl)) (.cons (cv_lst rfl rfl rfl rfl rfl (Eq.symm rfl)) (.cons (cv_lst rfl rfl rfl rfl rfl (Eq.symm rfl)) (.cons (.nil _) .nil)))))))) (GEnt.av_eq _)) .nil)) (Nat.le_of_ble_eq_true rfl)) (.cons (.nil _) (.cons (.nil _) (.cons (.nil _) (.cons (.refl _) .nil))))))))))) (.cons (.refl _) .nil)) (d_ref14_Same_c e102)) ?_
  refine tr tbk 2 (.mk ?_)
  cases x102
  replace h1 := cf h1
  refine tr tbk 4 (.mk ?_)
  exact lf h1 () leA
  replace h1 := ct h1
  obtain ⟨x103, e103, h1⟩ := bind_e h1
  refine sC cal10 (d_law15_awake_c e103) ?_
  refine tr tbk 3 (.mk ?_)
  exact lf h1 () leA
  rintro y6_1 _ h0
  obtain rfl := nxt_e h0
  refine wR hret (rT .nil) ?_
  exact .refl _
  replace h0 := ct h0
  refine tc tbk 3 (.mk ?_)
  obtain ⟨p104, h0⟩ := asrt_e h0
  obtain ⟨x105, e105, h0⟩ := bnd_e h0
  have lx105 : x105.length = (Int.toNat 40) := by rw [← e105]; exact List.length_replicate
  refine rse rfl rfl rfl (yl_make 23 (g := GReceipt.av) (z0 := ((⟨0, 0, 0, 0, 0, 0, 0, 0⟩ : GReceipt) : GReceipt)) .any rfl Tryz.underlying28 bz49 by49 rfl rfl rfl p104 (.cons (.sc _) (.cons (.sc _) (.cons (.sc _) (.cons (.sc _) (.cons (.sc _) (.cons (.sc _) (.cons (.sc _) (.cons (.sc _) .nil)))))))) e105) ?_; rintro _ _ ⟨v106, -, rfl, rfl⟩
  refine tr tbk 1 (.mk ?_)
  refine sS ⟨32, 10, true, true, v81, [[int 2, int 3, lst 1 fI ([1, 2, 3, 0] : List Int), .sl 3 w5_1 0 y5_4.length, .sl 4 w5_2 0 y5_5.length, .sl 14 w5_3 0 2, .sl 23 v106 0 (Int.toNat 40), .sc (.slice none 0 0), .sc (.slice none 0 0), int 0]]⟩ sh28 ?_
  refine tr tbk 3 (.mk ?_)
  refine sY (yv_build (cs := [int 1, int 0, int 0, int 0, int 0, int x4, int 0, int 0, .sc (.slice none 0 0)]) (ps := [(0, _), (5, _)]) rfl pl35 z35 rfl (.cons rfl (.cons rfl .nil)) (by kernel_rfl)) ?_
  refine sS ⟨35, 9, true, true, v82, [[int 1, int 0, int 0, int 0, int 0, int x4, int 0, int 0, .sc (.slice none 0 0)]]⟩ sh35 ?_
  refine tr tbk 7 (.mk ?_)
  obtain ⟨x107, e107, h0⟩ := bind_e h0
  refine rse rfl rfl rfl (Yield.frz 3 rfl (Yield.frz 4 rfl (Yield.frz 14 rfl (Yield.frz 8 rfl (Yield.frz 9 rfl (Yield.frz 10 rfl (Yield.frz 11 rfl (Yield.frz 12 rfl (Yield.frz 15 rfl (Yield.frz 16 rfl (Yield.frz 17 rfl (Yield.frz 18 rfl (Yield.frz 19 rfl (Yield.frz 23 rfl (Yield.weak (yv_callP rfl rfl (.cons rfl (.cons rfl .nil)) cal8 (.cons (CvL.agg (.cons (.refl _) (.cons (.refl _) (.cons (.refl _) (.cons (cv_lst rfl rfl rfl rfl rfl (Eq.symm rfl)) (.cons (cv_lst rfl rfl rfl rfl rfl (Eq.symm rfl)) (.cons (Cv.sl (rows := [GEnt.av (⟨1, false, y5_16, y5_17, y5_18, y5_19, y5_20, []⟩ : GEnt), GEnt.av (⟨1, false, y5_21, y5_22, y5_23, y5_24, y5_25, []⟩ : GEnt)]) rfl rfl rfl (.cons (cvl_to (.cons (.refl _) (.cons (.refl _) (.cons (cv_lst rfl rfl rfl rfl rfl (Eq.symm rfl)) (.cons (cv_lst rfl rfl rfl rfl rfl (Eq.symm rfl)) (.cons (cv_lst rfl rfl rfl rfl rfl (Eq.symm rfl)) (.cons (cv_lst rfl rfl rfl rfl rfl (Eq.symm rfl)) (.cons (cv_lst rfl rfl rfl rfl rfl (Eq.symm rfl)) (.cons (.nil _) .nil)))))))) (GEnt.av_eq _)) (.cons (cvl_to (.cons (.refl _) (.cons (.refl _) (.cons (cv_lst rfl rfl rfl rfl rfl (Eq.symm rfl)) (.cons (cv_lst rfl rfl rfl rfl rfl (Eq.symm rfl)) (.cons (cv_lst rfl rfl rfl rfl rfl (Eq.symm rfl)) (.cons (cv_lst rfl rfl rfl rfl rfl (Eq.symm rfl)) (.cons (cv_lst rfl rfl rfl rfl rfl (Eq.symm rfl)) (.cons (.nil _) .nil)))))))) (GEnt.av_eq _)) .nil)) (Nat.le_of_ble_eq_true rfl)) (.cons (cv_lst rfl rfl rfl rfl rfl (Eq.symm lx105)) (.cons (.nil _) (.cons (.nil _) (.cons (.refl _) .nil))))))))))) (.cons (CvL.agg (.cons (.refl _) (.cons (.refl _) (.cons (.refl _) (.cons (.refl _) (.cons (.refl _) (.cons (.refl _) (.cons (.refl _) (.cons (.refl _) (.cons (.nil _) .nil)))))))))) .nil)) (d_receive_Do_c e107)) (fun _ h => h) (fun _ h => h.elim)))))))))))))))) ?_; rintro _ _ ⟨rfl, rfl⟩
  refine tr tbk 3 (.mk ?_)
  refine sA 24 z32 fun v108 => ?_
  refine sS ⟨32, 10, true, true, v108, [(GState.av x107.1)]⟩ sh32 ?_
  refine tr tbk 3 (.mk ?_)
  refine jn h0 [] [] (fun (a : Bool) (k : Unit) => [(4, boo a)]) (fun a k => []) ⟨fun j109 h1 => ?_, ?_⟩
  refine tc tbk 3 (.mk ?_)
  refine nb tbk h1 fun x110 h1 => ?_
  refine tr tbk 1 (.mk ?_)
  cases x110
  replace h1 := cf h1
  refine tr tbk 9 (.mk ?_)
  exact lf h1 () leA
  replace h1 := ct h1
  refine tr tbk 2 (.mk ?_)
  obtain ⟨x111, e111, h1⟩ := bind_e h1
  refine sY (yv_callP rfl rfl (.cons rfl (.cons rfl .nil)) cal9 (.cons (CvL.agg (.cons (.refl _) (.cons (.refl _) (.cons (.refl _) (.cons (cv_lst rfl rfl rfl rfl rfl (Eq.symm rfl)) (.cons (cv_lst rfl rfl rfl rfl rfl (Eq.symm rfl)) (.cons (Cv.sl (rows := [GEnt.av (⟨1, false, y5_16, y5_17, y5_18, y5_19, y5_20, []⟩ : GEnt), GEnt.av (⟨1, false, y5_21, y5_22, y5_23, y5_24, y5_25, []⟩ : GEnt)]) rfl rfl rfl (.cons (cvl_to (.cons (.refl _) (.cons (.refl _) (.cons (cv_lst rfl rfl rfl rfl rfl (Eq.symm rfl)) (.cons (cv_lst rfl rfl rfl rfl rfl (Eq.symm rfl)) (.cons (cv_lst rfl rfl rfl rfl rfl (Eq.symm rfl)) (.cons (cv_lst rfl rfl rfl rfl rfl (Eq.symm rfl)) (.cons (cv_lst rfl rfl rfl rfl rfl (Eq.symm rfl)) (.cons (.nil _) .nil)))))))) (GEnt.av_eq _)) (.cons (cvl_to (.cons (.refl _) (.cons (.refl _) (.cons (cv_lst rfl rfl rfl rfl rfl (Eq.symm rfl)) (.cons (cv_lst rfl rfl rfl rfl rfl (Eq.symm rfl)) (.cons (cv_lst rfl rfl rfl rfl rfl (Eq.symm rfl)) (.cons (cv_lst rfl rfl rfl rfl rfl (Eq.symm rfl)) (.cons (cv_lst rfl rfl rfl rfl rfl (Eq.symm rfl)) (.cons (.nil _) .nil)))))))) (GEnt.av_eq _)) .nil)) (Nat.le_of_ble_eq_true rfl)) (.cons (cv_lst rfl rfl rfl rfl rfl (Eq.symm lx105)) (.cons (.nil _) (.cons (.nil _) (.cons (.refl _) .nil))))))))))) (.cons (.refl _) .nil)) (d_ref14_Same_c e111)) ?_
  refine tr tbk 2 (.mk ?_)
  cases x111
  replace h1 := cf h1
  refine tr tbk 4 (.mk ?_)
  exact lf h1 () leA
  replace h1 := ct h1
  obtain ⟨x112, e112, h1⟩ := bind_e h1
  refine sC cal10 (d_law15_awake_c e112) ?_
  refine tr tbk 3 (.mk ?_)
  exact lf h1 () leA
  rintro y6_1 _ h0
  obtain rfl := nxt_e h0
  refine wR hret (rT .nil) ?_
  exact .refl _
  replace h0 := ct h0
  refine tc tbk 2 (.mk ?_)
  refine c_drawE [0, 1, 0, 4, 0, 16, 48, 112, 240, 243, 755, 1779, 4095, 8191, 16383] (rl [(0, [21]), (1, [21]), (2, [21]), (3, [21]), (4, [21]), (5, [21]), (6, [14]), (7, [14]), (9, [14]), (10, [14]), (12, [14]), (13, [14])] []) (rl [(11, [21]), (14, [])] [14, 21]) (rl [(11, false), (14, false)] true) [0, 1, 2, 3, 4, 5, 6, 7, 8, 9, 10, 11, 12, 13, 14] mixed (by kernel_rfl) ?_; intro K hK
  refine eF fo32_1 ?_
  refine eL sh27 ?_
  refine eF fo32_1 ?_
  refine eL sh27 ?_
  refine eF fo32_1 ?_
  refine eL sh27 ?_
  refine de_pure rfl rfl rfl rfl (fun H hH => yv_indexAddr (j := 1) rfl Tryz.underlying27 sh40 rfl rfl rfl (.sl ((hH _ (by decide)).trans rfl) rfl rfl (Nat.le_of_ble_eq_true rfl) (Nat.le_of_ble_eq_true rfl))) ?_
  refine eL sh40 ?_
  refine eP (fun H hH => yv_buildSlice (ps := [(0, _)]) (rows := [[int 1, boo false, .sl 15 w5_11 0 y5_21.length, .sl 16 w5_12 0 y5_22.length, .sl 17 w5_13 0 y5_23.length, .sl 18 w5_14 0 y5_24.length, .sl 19 w5_15 0 y5_25.length, .sc (.slice none 0 0)]]) rfl Tryz.underlying27 bz40 (.cons rfl .nil) (by kernel_rfl) rfl rfl rfl) ?_
  refine de_pure rfl rfl rfl rfl (fun H hH => yv_indexAddr (j := 1) rfl Tryz.underlying27 sh40 rfl rfl rfl (.sl ((hH _ (by decide)).trans rfl) rfl rfl (Nat.le_of_ble_eq_true rfl) (Nat.le_of_ble_eq_true rfl))) ?_
  refine eF fo40_1 ?_
  refine de_eff0 rfl rfl rfl rfl (Yield.weak (yl_ob (ob' := (⟨40, 8, true, true, w5_3, [[int 1, boo false, .sl 8 w5_6 0 y5_16.length, .sl 9 w5_7 0 y5_17.length, .sl 10 w5_8 0 y5_18.length, .sl 11 w5_9 0 y5_19.length, .sl 12 w5_10 0 y5_20.length, .sc (.slice none 0 0)], [int 1, boo true, .sl 15 w5_11 0 y5_21.length, .sl 16 w5_12 0 y5_22.length, .sl 17 w5_13 0 y5_23.length, .sl 18 w5_14 0 y5_24.length, .sl 19 w5_15 0 y5_25.length, .sc (.slice none 0 0)]]⟩ : AObj)) (yl_store rfl sh4 rfl rfl rfl rfl rfl rfl rfl rfl rfl) rfl) (fun _ h => h) (fun _ _ => trivial)) (by rintro _ _ ⟨rfl, rfl⟩; exact ⟨rfl, trivial⟩) ?_; rintro _ _ ⟨rfl, rfl⟩
  refine de_pure rfl rfl rfl rfl (fun H hH => yv_indexAddr (j := 1) rfl Tryz.underlying27 sh40 rfl rfl rfl (.sl ((hH _ (by decide)).trans rfl) rfl rfl (Nat.le_of_ble_eq_true rfl) (Nat.le_of_ble_eq_true rfl))) ?_
  refine eF fo40_7 ?_
  refine de_eff0 rfl rfl rfl rfl (Yield.weak (yl_ob (ob' := (⟨40, 8, true, true, w5_3, [[int 1, boo false, .sl 8 w5_6 0 y5_16.length, .sl 9 w5_7 0 y5_17.length, .sl 10 w5_8 0 y5_18.length, .sl 11 w5_9 0 y5_19.length, .sl 12 w5_10 0 y5_20.length, .sc (.slice none 0 0)], [int 1, boo true, .sl 15 w5_11 0 y5_21.length, .sl 16 w5_12 0 y5_22.length, .sl 17 w5_13 0 y5_23.length, .sl 18 w5_14 0 y5_24.length, .sl 19 w5_15 0 y5_25.length, .list 8 [[int 1, boo false, .sl 15 w5_11 0 y5_21.length, .sl 16 w5_12 0 y5_22.length, .sl 17 w5_13 0 y5_23.length, .sl 18 w5_14 0 y5_24.length, .sl 19 w5_15 0 y5_25.length, .sc (.slice none 0 0)]]]]⟩ : AObj)) (yl_store rfl sh27 rfl rfl rfl rfl rfl rfl rfl rfl rfl) rfl) (fun _ h => h) (fun _ _ => trivial)) (by rintro _ _ ⟨rfl, rfl⟩; exact trivial) ?_; rintro _ _ ⟨rfl, rfl⟩
  refine de_nil (hK _ ?_)
  refine tc tbk 2 (.mk ?_)
  refine sY (yv_build (cs := [int 1, int 1, int 0, int 0, int 0, int x4, int 0, int 0, .sc (.slice none 0 0)]) (ps := [(0, _), (1, _), (5, _)]) rfl pl35 z35 rfl (.cons rfl (.cons rfl (.cons rfl .nil))) (by kernel_rfl)) ?_
  refine sS ⟨35, 9, true, true, v82, [[int 1, int 1, int 0, int 0, int 0, int x4, int 0, int 0, .sc (.slice none 0 0)]]⟩ sh35 ?_
  refine tr tbk 7 (.mk ?_)
  obtain ⟨x113, e113, h0⟩ := bind_e h0
  refine rse rfl rfl rfl (Yield.frz 3 rfl (Yield.frz 4 rfl (Yield.frz 14 rfl (Yield.frz 8 rfl (Yield.frz 9 rfl (Yield.frz 10 rfl (Yield.frz 11 rfl (Yield.frz 12 rfl (Yield.frz 15 rfl (Yield.frz 16 rfl (Yield.frz 17 rfl (Yield.frz 18 rfl (Yield.frz 19 rfl (Yield.weak (yv_callP rfl rfl (.cons rfl (.cons rfl .nil)) cal8 (.cons (CvL.agg (.cons (.refl _) (.cons (.refl _) (.cons (.refl _) (.cons (cv_lst rfl rfl rfl rfl rfl (Eq.symm rfl)) (.cons (cv_lst rfl rfl rfl rfl rfl (Eq.symm rfl)) (.cons (Cv.sl (rows := [GEnt.av (⟨1, false, y5_16, y5_17, y5_18, y5_19, y5_20, []⟩ : GEnt), GEnt.av (⟨1, true, y5_21, y5_22, y5_23, y5_24, y5_25, [(⟨1, false, y5_21, y5_22, y5_23, y5_24, y5_25, []⟩ : GEnt)]⟩ : GEnt)]) rfl rfl rfl (.cons (cvl_to (.cons (.refl _) (.cons (.refl _) (.cons (cv_lst rfl rfl rfl rfl rfl (Eq.symm rfl)) (.cons (cv_lst rfl rfl rfl rfl rfl (Eq.symm rfl)) (.cons (cv_lst rfl rfl rfl rfl rfl (Eq.symm rfl)) (.cons (cv_lst rfl rfl rfl rfl rfl (Eq.symm rfl)) (.cons (cv_lst rfl rfl rfl rfl rfl (Eq.symm rfl)) (.cons (.nil _) .nil)))))))) (GEnt.av_eq _)) (.cons (cvl_to (.cons (.refl _) (.cons (.refl _) (.cons (cv_lst rfl rfl rfl rfl rfl (Eq.symm rfl)) (.cons (cv_lst rfl rfl rfl rfl rfl (Eq.symm rfl)) (.cons (cv_lst rfl rfl rfl rfl rfl (Eq.symm rfl)) (.cons (cv_lst rfl rfl rfl rfl rfl (Eq.symm rfl)) (.cons (cv_lst rfl rfl rfl rfl rfl (Eq.symm rfl)) (.cons (CvLL.list (ys := [GEnt.av (⟨1, false, y5_21, y5_22, y5_23, y5_24, y5_25, []⟩ : GEnt)]) (.cons (cvl_to (.cons (.refl _) (.cons (.refl _) (.cons (cv_lst rfl rfl rfl rfl rfl (Eq.symm rfl)) (.cons (cv_lst rfl rfl rfl rfl rfl (Eq.symm rfl)) (.cons (cv_lst rfl rfl rfl rfl rfl (Eq.symm rfl)) (.cons (cv_lst rfl rfl rfl rfl rfl (Eq.symm rfl)) (.cons (cv_lst rfl rfl rfl rfl rfl (Eq.symm rfl)) (.cons (.nil _) .nil)))))))) (GEnt.av_eq _)) .nil)) .nil)))))))) (GEnt.av_eq _)) .nil)) (Nat.le_of_ble_eq_true rfl)) (.cons (.nil _) (.cons (.nil _) (.cons (.nil _) (.cons (.refl _) .nil))))))))))) (.cons (CvL.agg (.cons (.refl _) (.cons (.refl _) (.cons (.refl _) (.cons (.refl _) (.cons (.refl _) (.cons (.refl _) (.cons (.refl _) (.cons (.refl _) (.cons (.nil _) .nil)))))))))) .nil)) (d_receive_Do_c e113)) (fun _ h => h) (fun _ h => h.elim))))))))))))))) ?_; rintro _ _ ⟨rfl, rfl⟩
  refine tr tbk 3 (.mk ?_)
  refine sA 24 z32 fun v114 => ?_
  refine sS ⟨32, 10, true, true, v114, [(GState.av x113.1)]⟩ sh32 ?_
  refine tr tbk 3 (.mk ?_)
  refine jn h0 [] [] (fun (a : Bool) (k : Unit) => [(4, boo a)]) (fun a k => []) ⟨fun j115 h1 => ?_, ?_⟩
  refine tc tbk 3 (.mk ?_)
  refine nb tbk h1 fun x116 h1 => ?_
  refine tr tbk 1 (.mk ?_)
  cases x116
  replace h1 := cf h1
  refine tr tbk 9 (.mk ?_)
  exact lf h1 () leA
  replace h1 := ct h1
  refine tr tbk 2 (.mk ?_)
  obtain ⟨x117, e117, h1⟩ := bind_e h1
  refine sY (yv_callP rfl rfl (.cons rfl (.cons rfl .nil)) cal9 (.cons (CvL.agg (.cons (.refl _) (.cons (.refl _) (.cons (.refl _) (.cons (cv_lst rfl rfl rfl rfl rfl (Eq.symm rfl)) (.cons (cv_lst rfl rfl rfl rfl rfl (Eq.symm rfl)) (.cons (Cv.sl (rows := [GEnt.av (⟨1, false, y5_16, y5_17, y5_18, y5_19, y5_20, []⟩ : GEnt), GEnt.av (⟨1, true, y5_21, y5_22, y5_23, y5_24, y5_25, [(⟨1, false, y5_21, y5_22, y5_23, y5_24, y5_25, []⟩ : GEnt)]⟩ : GEnt)]) rfl rfl rfl (.cons (cvl_to (.cons (.refl _) (.cons (.refl _) (.cons (cv_lst rfl rfl rfl rfl rfl (Eq.symm rfl)) (.cons (cv_lst rfl rfl rfl rfl rfl (Eq.symm rfl)) (.cons (cv_lst rfl rfl rfl rfl rfl (Eq.symm rfl)) (.cons (cv_lst rfl rfl rfl rfl rfl (Eq.symm rfl)) (.cons (cv_lst rfl rfl rfl rfl rfl (Eq.symm rfl)) (.cons (.nil _) .nil)))))))) (GEnt.av_eq _)) (.cons (cvl_to (.cons (.refl _) (.cons (.refl _) (.cons (cv_lst rfl rfl rfl rfl rfl (Eq.symm rfl)) (.cons (cv_lst rfl rfl rfl rfl rfl (Eq.symm rfl)) (.cons (cv_lst rfl rfl rfl rfl rfl (Eq.symm rfl)) (.cons (cv_lst rfl rfl rfl rfl rfl (Eq.symm rfl)) (.cons (cv_lst rfl rfl rfl rfl rfl (Eq.symm rfl)) (.cons (CvLL.list (ys := [GEnt.av (⟨1, false, y5_21, y5_22, y5_23, y5_24, y5_25, []⟩ : GEnt)]) (.cons (cvl_to (.cons (.refl _) (.cons (.refl _) (.cons (cv_lst rfl rfl rfl rfl rfl (Eq.symm rfl)) (.cons (cv_lst rfl rfl rfl rfl rfl (Eq.symm rfl)) (.cons (cv_lst rfl rfl rfl rfl rfl (Eq.symm rfl)) (.cons (cv_lst rfl rfl rfl rfl rfl (Eq.symm rfl)) (.cons (cv_lst rfl rfl rfl rfl rfl (Eq.symm rfl)) (.cons (.nil _) .nil)))))))) (GEnt.av_eq _)) .nil)) .nil)))))))) (GEnt.av_eq _)) .nil)) (Nat.le_of_ble_eq_true rfl)) (.cons (.nil _) (.cons (.nil _) (.cons (.nil _) (.cons (.refl _) .nil))))))))))) (.cons (.refl _) .nil)) (d_ref14_Same_c e117)) ?_
  refine tr tbk 2 (.mk ?_)
  cases x117
  replace h1 := cf h1
  refine tr tbk 4 (.mk ?_)
  exact lf h1 () leA
  replace h1 := ct h1
  obtain ⟨x118, e118, h1⟩ := bind_e h1
  refine sC cal10 (d_law15_awake_c e118) ?_
  refine tr tbk 3 (.mk ?_)
  exact lf h1 () leA
  rintro y6_1 _ h0
  obtain rfl := nxt_e h0
  refine wR hret (rT .nil) ?_
  exact .refl _
  replace h0 := ct h0
  refine tc tbk 3 (.mk ?_)
  refine sY (yv_build (cs := [int 1, int 0, int 4, int 0, int 0, int x4, int 0, int 0, .sc (.slice none 0 0)]) (ps := [(0, _), (2, _), (5, _)]) rfl pl35 z35 rfl (.cons rfl (.cons rfl (.cons rfl .nil))) (by kernel_rfl)) ?_
  refine sS ⟨35, 9, true, true, v82, [[int 1, int 0, int 4, int 0, int 0, int x4, int 0, int 0, .sc (.slice none 0 0)]]⟩ sh35 ?_
  refine tr tbk 7 (.mk ?_)
  obtain ⟨x119, e119, h0⟩ := bind_e h0
  refine rse rfl rfl rfl (Yield.frz 3 rfl (Yield.frz 4 rfl (Yield.frz 14 rfl (Yield.frz 8 rfl (Yield.frz 9 rfl (Yield.frz 10 rfl (Yield.frz 11 rfl (Yield.frz 12 rfl (Yield.frz 15 rfl (Yield.frz 16 rfl (Yield.frz 17 rfl (Yield.frz 18 rfl (Yield.frz 19 rfl (Yield.weak (yv_callP rfl rfl (.cons rfl (.cons rfl .nil)) cal8 (.cons (CvL.agg (.cons (.refl _) (.cons (.refl _) (.cons (.refl _) (.cons (cv_lst rfl rfl rfl rfl rfl (Eq.symm rfl)) (.cons (cv_lst rfl rfl rfl rfl rfl (Eq.symm rfl)) (.cons (Cv.sl (rows := [GEnt.av (⟨1, false, y5_16, y5_17, y5_18, y5_19, y5_20, []⟩ : GEnt), GEnt.av (⟨1, false, y5_21, y5_22, y5_23, y5_24, y5_25, []⟩ : GEnt)]) rfl rfl rfl (.cons (cvl_to (.cons (.refl _) (.cons (.refl _) (.cons (cv_lst rfl rfl rfl rfl rfl (Eq.symm rfl)) (.cons (cv_lst rfl rfl rfl rfl rfl (Eq.symm rfl)) (.cons (cv_lst rfl rfl rfl rfl rfl (Eq.symm rfl)) (.cons (cv_lst rfl rfl rfl rfl rfl (Eq.symm rfl)) (.cons (cv_lst rfl rfl rfl rfl rfl (Eq.symm rfl)) (.cons (.nil _) .nil)))))))) (GEnt.av_eq _)) (.cons (cvl_to (.cons (.refl _) (.cons (.refl _) (.cons (cv_lst rfl rfl rfl rfl rfl (Eq.symm rfl)) (.cons (cv_lst rfl rfl rfl rfl rfl (Eq.symm rfl)) (.cons (cv_lst rfl rfl rfl rfl rfl (Eq.symm rfl)) (.cons (cv_lst rfl rfl rfl rfl rfl (Eq.symm rfl)) (.cons (cv_lst rfl rfl rfl rfl rfl (Eq.symm rfl)) (.cons (.nil _) .nil)))))))) (GEnt.av_eq _)) .nil)) (Nat.le_of_ble_eq_true rfl)) (.cons (.nil _) (.cons (.nil _) (.cons (.nil _) (.cons (.refl _) .nil))))))))))) (.cons (CvL.agg (.cons (.refl _) (.cons (.refl _) (.cons (.refl _) (.cons (.refl _) (.cons (.refl _) (.cons (.refl _) (.cons (.refl _) (.cons (.refl _) (.cons (.nil _) .nil)))))))))) .nil)) (d_receive_Do_c e119)) (fun _ h => h) (fun _ h => h.elim))))))))))))))) ?_; rintro _ _ ⟨rfl, rfl⟩
  refine tr tbk 3 (.mk ?_)
  refine sA 24 z32 fun v120 => ?_
  refine sS ⟨32, 10, true, true, v120, [(GState.av x119.1)]⟩ sh32 ?_
  refine tr tbk 3 (.mk ?_)
  refine jn h0 [] [] (fun (a : Bool) (k : Unit) => [(4, boo a)]) (fun a k => []) ⟨fun j121 h1 => ?_, ?_⟩
  refine tc tbk 3 (.mk ?_)
  refine nb tbk h1 fun x122 h1 => ?_
  refine tr tbk 1 (.mk ?_)
  cases x122
  replace h1 := cf h1
  refine tr tbk 9 (.mk ?_)
  exact lf h1 () leA
  replace h1 := ct h1
  refine tr tbk 2 (.mk ?_)
  obtain ⟨x123, e123, h1⟩ := bind_e h1
  refine sY (yv_callP rfl rfl (.cons rfl (.cons rfl .nil)) cal9 (.cons (CvL.agg (.cons (.refl _) (.cons (.refl _) (.cons (.refl _) (.cons (cv_lst rfl rfl rfl rfl rfl (Eq.symm rfl)) (.cons (cv_lst rfl rfl rfl rfl rfl (Eq.symm rfl)) (.cons (Cv.sl (rows := [GEnt.av (⟨1, false, y5_16, y5_17, y5_18, y5_19, y5_20, []⟩ : GEnt), GEnt.av (⟨1, false, y5_21, y5_22, y5_23, y5_24, y5_25, []⟩ : GEnt)]) rfl rfl rfl (.cons (cvl_to (.cons (.refl _) (.cons (.refl _) (.cons (cv_lst rfl rfl rfl rfl rfl (Eq.symm rfl)) (.cons (cv_lst rfl rfl rfl rfl rfl (Eq.symm rfl)) (.cons (cv_lst rfl rfl rfl rfl rfl (Eq.symm rfl)) (.cons (cv_lst rfl rfl rfl rfl rfl (Eq.symm rfl)) (.cons (cv_lst rfl rfl rfl rfl rfl (Eq.symm rfl)) (.cons (.nil _) .nil)))))))) (GEnt.av_eq _)) (.cons (cvl_to (.cons (.refl _) (.cons (.refl _) (.cons (cv_lst rfl rfl rfl rfl rfl (Eq.symm rfl)) (.cons (cv_lst rfl rfl rfl rfl rfl (Eq.symm rfl)) (.cons (cv_lst rfl rfl rfl rfl rfl (Eq.symm rfl)) (.cons (cv_lst rfl rfl rfl rfl rfl (Eq.symm rfl)) (.cons (cv_lst rfl rfl rfl rfl rfl (Eq.symm rfl)) (.cons (.nil _) .nil)))))))) (GEnt.av_eq _)) .nil)) (Nat.le_of_ble_eq_true rfl)) (.cons (.nil _) (.cons (.nil _) (.cons (.nil _) (.cons (.refl _) .nil))))))))))) (.cons (.refl _) .nil)) (d_ref14_Same_c e123)) ?_
  refine tr tbk 2 (.mk ?_)
  cases x123
  replace h1 := cf h1
  refine tr tbk 4 (.mk ?_)
  exact lf h1 () leA
  replace h1 := ct h1
  obtain ⟨x124, e124, h1⟩ := bind_e h1
  refine sC cal10 (d_law15_awake_c e124) ?_
  refine tr tbk 3 (.mk ?_)
  exact lf h1 () leA
  rintro y6_1 _ h0
  obtain rfl := nxt_e h0
  refine wR hret (rT .nil) ?_
  exact .refl _
end Go.Pv
