import Derived.Test.YtpbcnilkippahaaK53b
set_option linter.unusedVariables false
namespace Go.Pv
open Go.Proofs
set_option maxRecDepth 10000
set_option maxHeartbeats 1000000
def d_law05_OpsWrong (n : Nat) (a1 : Int) (a2 : Int) (a3 : Int) : Option (Bool) :=
(d_law00_Place a1 16).bind fun x4 =>
bnd (w64 (1 + x4)) fun x5 =>
(d_law00_Place a3 1000).bind fun x6 =>
bnd (w64 (1 + x6)) fun x7 =>
bnd (decide (x5 = 0)) fun x9 =>
cond x9 ((d_ops_Check n (⟨0, 0, 0, 0, 0, 0, 0, 0, []⟩ : GOp)).bind fun x586 =>
bnd (!x586) fun x587 =>
asrt (x587 = false) <|
(d_law00_Place a2 10).bind fun x588 =>
(show Option (Int × Int × Int × Int × Int × Int × Int × Int × (List Int)) from
bnd (decide (x588 = 0)) fun x591 =>
cond x591 (bnd (w64 (16 + x7)) fun x613 =>
some ((x613 : Int), (0 : Int), (0 : Int), (0 : Int), (0 : Int), (0 : Int), (0 : Int), (0 : Int), (([] : List Int) : List Int))) (bnd (decide (x588 = 1)) fun x592 =>
cond x592 (bnd (w64 (0 - x7)) fun x612 =>
some ((x612 : Int), (0 : Int), (0 : Int), (0 : Int), (0 : Int), (0 : Int), (0 : Int), (0 : Int), (([] : List Int) : List Int))) (bnd (decide (x588 = 2)) fun x593 =>
cond x593 (bnd (w64 (3 + x7)) fun x611 =>
some ((0 : Int), (x611 : Int), (0 : Int), (0 : Int), (0 : Int), (0 : Int), (0 : Int), (0 : Int), (([] : List Int) : List Int))) (bnd (decide (x588 = 3)) fun x594 =>
cond x594 (bnd (w64 (0 - x7)) fun x610 =>
some ((0 : Int), (0 : Int), (x610 : Int), (0 : Int), (0 : Int), (0 : Int), (0 : Int), (0 : Int), (([] : List Int) : List Int))) (bnd (decide (x588 = 4)) fun x595 =>
cond x595 (bnd (w64 (1 + x7)) fun x609 =>
some ((0 : Int), (0 : Int), (0 : Int), (x609 : Int), (0 : Int), (0 : Int), (0 : Int), (0 : Int), (([] : List Int) : List Int))) (bnd (decide (x588 = 5)) fun x596 =>
cond x596 (bnd (w64 (3 + x7)) fun x608 =>
some ((0 : Int), (0 : Int), (0 : Int), (0 : Int), (x608 : Int), (0 : Int), (0 : Int), (0 : Int), (([] : List Int) : List Int))) (bnd (decide (x588 = 6)) fun x597 =>
cond x597 (bnd (w64 (0 - x7)) fun x607 =>
some ((0 : Int), (0 : Int), (0 : Int), (0 : Int), (0 : Int), (x607 : Int), (0 : Int), (0 : Int), (([] : List Int) : List Int))) (bnd (decide (x588 = 7)) fun x598 =>
cond x598 (bnd (w64 (1125899906842624 + x7)) fun x606 =>
some ((0 : Int), (0 : Int), (0 : Int), (0 : Int), (0 : Int), (0 : Int), (x606 : Int), (0 : Int), (([] : List Int) : List Int))) (bnd (decide (x588 = 8)) fun x599 =>
cond x599 (bnd (w64 (39 + x7)) fun x605 =>
some ((0 : Int), (0 : Int), (0 : Int), (0 : Int), (0 : Int), (0 : Int), (0 : Int), (x605 : Int), (([] : List Int) : List Int))) (bnd (w64 (0 - x7)) fun x600 =>
bnd (([] : List Int) ++ ([x600] : List Int)) fun x602 =>
asrt (x602.length ≤ 68719476736) <|
some ((0 : Int), (0 : Int), (0 : Int), (0 : Int), (0 : Int), (0 : Int), (0 : Int), (0 : Int), (x602 : List Int)))))))))))).bind <| p2 fun (y0_1 : Int) (q0 : Int × Int × Int × Int × Int × Int × Int × (List Int)) => (p2 fun (y0_2 : Int) (q1 : Int × Int × Int × Int × Int × Int × (List Int)) => (p2 fun (y0_3 : Int) (q2 : Int × Int × Int × Int × Int × (List Int)) => (p2 fun (y0_4 : Int) (q3 : Int × Int × Int × Int × (List Int)) => (p2 fun (y0_5 : Int) (q4 : Int × Int × Int × (List Int)) => (p2 fun (y0_6 : Int) (q5 : Int × Int × (List Int)) => (p2 fun (y0_7 : Int) (q6 : Int × (List Int)) => (p2 fun (y0_8 : Int) (y0_10 : List Int) =>
(show Option (Bool) from
(d_ops_Check n (⟨y0_1, y0_2, y0_3, y0_4, y0_5, y0_6, y0_7, y0_8, y0_10⟩ : GOp)).bind fun x615 =>
bnd (!x615) fun x616 =>
cond x616 ((d_ops_Bytes n [(⟨y0_1, y0_2, y0_3, y0_4, y0_5, y0_6, y0_7, y0_8, y0_10⟩ : GOp)]).bind fun x617 =>
bnd (decide (x617 = ([] : List UInt8))) fun x618 =>
cond x618 ((d_law05_awake n).bind fun x619 =>
some (x619 : Bool)) (some (false : Bool))) (some (false : Bool))).bind <| fun y1_1 =>
some ((y1_1 : Bool))) q6) q5) q4) q3) q2) q1) q0) (bnd (decide (x5 = 1)) fun x10 =>
cond x10 ((d_ops_Check n (⟨1, 0, 0, 0, 0, 1, 0, 0, []⟩ : GOp)).bind fun x551 =>
bnd (!x551) fun x552 =>
asrt (x552 = false) <|
(d_law00_Place a2 10).bind fun x553 =>
(show Option (Int × Int × Int × Int × Int × Int × Int × Int × (List Int)) from
bnd (decide (x553 = 0)) fun x556 =>
cond x556 (bnd (w64 (16 + x7)) fun x578 =>
some ((x578 : Int), (0 : Int), (0 : Int), (0 : Int), (0 : Int), (1 : Int), (0 : Int), (0 : Int), (([] : List Int) : List Int))) (bnd (decide (x553 = 1)) fun x557 =>
cond x557 (bnd (w64 (0 - x7)) fun x577 =>
some ((x577 : Int), (0 : Int), (0 : Int), (0 : Int), (0 : Int), (1 : Int), (0 : Int), (0 : Int), (([] : List Int) : List Int))) (bnd (decide (x553 = 2)) fun x558 =>
cond x558 (bnd (w64 (3 + x7)) fun x576 =>
some ((1 : Int), (x576 : Int), (0 : Int), (0 : Int), (0 : Int), (1 : Int), (0 : Int), (0 : Int), (([] : List Int) : List Int))) (bnd (decide (x553 = 3)) fun x559 =>
cond x559 (bnd (w64 (0 - x7)) fun x575 =>
some ((1 : Int), (0 : Int), (x575 : Int), (0 : Int), (0 : Int), (1 : Int), (0 : Int), (0 : Int), (([] : List Int) : List Int))) (bnd (decide (x553 = 4)) fun x560 =>
cond x560 (bnd (w64 (1 + x7)) fun x574 =>
some ((1 : Int), (0 : Int), (0 : Int), (x574 : Int), (0 : Int), (1 : Int), (0 : Int), (0 : Int), (([] : List Int) : List Int))) (bnd (decide (x553 = 5)) fun x561 =>
cond x561 (bnd (w64 (3 + x7)) fun x573 =>
some ((1 : Int), (0 : Int), (0 : Int), (0 : Int), (x573 : Int), (1 : Int), (0 : Int), (0 : Int), (([] : List Int) : List Int))) (bnd (decide (x553 = 6)) fun x562 =>
cond x562 (bnd (w64 (0 - x7)) fun x572 =>
some ((1 : Int), (0 : Int), (0 : Int), (0 : Int), (0 : Int), (x572 : Int), (0 : Int), (0 : Int), (([] : List Int) : List Int))) (bnd (decide (x553 = 7)) fun x563 =>
cond x563 (bnd (w64 (1125899906842624 + x7)) fun x571 =>
some ((1 : Int), (0 : Int), (0 : Int), (0 : Int), (0 : Int), (1 : Int), (x571 : Int), (0 : Int), (([] : List Int) : List Int))) (bnd (decide (x553 = 8)) fun x564 =>
cond x564 (bnd (w64 (39 + x7)) fun x570 =>
some ((1 : Int), (0 : Int), (0 : Int), (0 : Int), (0 : Int), (1 : Int), (0 : Int), (x570 : Int), (([] : List Int) : List Int))) (bnd (w64 (0 - x7)) fun x565 =>
bnd (([] : List Int) ++ ([x565] : List Int)) fun x567 =>
asrt (x567.length ≤ 68719476736) <|
some ((1 : Int), (0 : Int), (0 : Int), (0 : Int), (0 : Int), (1 : Int), (0 : Int), (0 : Int), (x567 : List Int)))))))))))).bind <| p2 fun (y0_1 : Int) (q0 : Int × Int × Int × Int × Int × Int × Int × (List Int)) => (p2 fun (y0_2 : Int) (q1 : Int × Int × Int × Int × Int × Int × (List Int)) => (p2 fun (y0_3 : Int) (q2 : Int × Int × Int × Int × Int × (List Int)) => (p2 fun (y0_4 : Int) (q3 : Int × Int × Int × Int × (List Int)) => (p2 fun (y0_5 : Int) (q4 : Int × Int × Int × (List Int)) => (p2 fun (y0_6 : Int) (q5 : Int × Int × (List Int)) => (p2 fun (y0_7 : Int) (q6 : Int × (List Int)) => (p2 fun (y0_8 : Int) (y0_10 : List Int) =>
(show Option (Bool) from
(d_ops_Check n (⟨y0_1, y0_2, y0_3, y0_4, y0_5, y0_6, y0_7, y0_8, y0_10⟩ : GOp)).bind fun x580 =>
bnd (!x580) fun x581 =>
cond x581 ((d_ops_Bytes n [(⟨y0_1, y0_2, y0_3, y0_4, y0_5, y0_6, y0_7, y0_8, y0_10⟩ : GOp)]).bind fun x582 =>
bnd (decide (x582 = ([] : List UInt8))) fun x583 =>
cond x583 ((d_law05_awake n).bind fun x584 =>
some (x584 : Bool)) (some (false : Bool))) (some (false : Bool))).bind <| fun y1_1 =>
some ((y1_1 : Bool))) q6) q5) q4) q3) q2) q1) q0) (bnd (decide (x5 = 2)) fun x11 =>
cond x11 ((d_ops_Check n (⟨2, 0, 0, 0, 0, 1, 0, 0, []⟩ : GOp)).bind fun x516 =>
bnd (!x516) fun x517 =>
asrt (x517 = false) <|
(d_law00_Place a2 10).bind fun x518 =>
(show Option (Int × Int × Int × Int × Int × Int × Int × Int × (List Int)) from
bnd (decide (x518 = 0)) fun x521 =>
cond x521 (bnd (w64 (16 + x7)) fun x543 =>
some ((x543 : Int), (0 : Int), (0 : Int), (0 : Int), (0 : Int), (1 : Int), (0 : Int), (0 : Int), (([] : List Int) : List Int))) (bnd (decide (x518 = 1)) fun x522 =>
cond x522 (bnd (w64 (0 - x7)) fun x542 =>
some ((x542 : Int), (0 : Int), (0 : Int), (0 : Int), (0 : Int), (1 : Int), (0 : Int), (0 : Int), (([] : List Int) : List Int))) (bnd (decide (x518 = 2)) fun x523 =>
cond x523 (bnd (w64 (3 + x7)) fun x541 =>
some ((2 : Int), (x541 : Int), (0 : Int), (0 : Int), (0 : Int), (1 : Int), (0 : Int), (0 : Int), (([] : List Int) : List Int))) (bnd (decide (x518 = 3)) fun x524 =>
cond x524 (bnd (w64 (0 - x7)) fun x540 =>
some ((2 : Int), (0 : Int), (x540 : Int), (0 : Int), (0 : Int), (1 : Int), (0 : Int), (0 : Int), (([] : List Int) : List Int))) (bnd (decide (x518 = 4)) fun x525 =>
cond x525 (bnd (w64 (1 + x7)) fun x539 =>
some ((2 : Int), (0 : Int), (0 : Int), (x539 : Int), (0 : Int), (1 : Int), (0 : Int), (0 : Int), (([] : List Int) : List Int))) (bnd (decide (x518 = 5)) fun x526 =>
cond x526 (bnd (w64 (3 + x7)) fun x538 =>
some ((2 : Int), (0 : Int), (0 : Int), (0 : Int), (x538 : Int), (1 : Int), (0 : Int), (0 : Int), (([] : List Int) : List Int))) (bnd (decide (x518 = 6)) fun x527 =>
cond x527 (bnd (w64 (0 - x7)) fun x537 =>
some ((2 : Int), (0 : Int), (0 : Int), (0 : Int), (0 : Int), (x537 : Int), (0 : Int), (0 : Int), (([] : List Int) : List Int))) (bnd (decide (x518 = 7)) fun x528 =>
cond x528 (bnd (w64 (1125899906842624 + x7)) fun x536 =>
some ((2 : Int), (0 : Int), (0 : Int), (0 : Int), (0 : Int), (1 : Int), (x536 : Int), (0 : Int), (([] : List Int) : List Int))) (bnd (decide (x518 = 8)) fun x529 =>
cond x529 (bnd (w64 (39 + x7)) fun x535 =>
some ((2 : Int), (0 : Int), (0 : Int), (0 : Int), (0 : Int), (1 : Int), (0 : Int), (x535 : Int), (([] : List Int) : List Int))) (bnd (w64 (0 - x7)) fun x530 =>
bnd (([] : List Int) ++ ([x530] : List Int)) fun x532 =>
asrt (x532.length ≤ 68719476736) <|
some ((2 : Int), (0 : Int), (0 : Int), (0 : Int), (0 : Int), (1 : Int), (0 : Int), (0 : Int), (x532 : List Int)))))))))))).bind <| p2 fun (y0_1 : Int) (q0 : Int × Int × Int × Int × Int × Int × Int × (List Int)) => (p2 fun (y0_2 : Int) (q1 : Int × Int × Int × Int × Int × Int × (List Int)) => (p2 fun (y0_3 : Int) (q2 : Int × Int × Int × Int × Int × (List Int)) => (p2 fun (y0_4 : Int) (q3 : Int × Int × Int × Int × (List Int)) => (p2 fun (y0_5 : Int) (q4 : Int × Int × Int × (List Int)) => (p2 fun (y0_6 : Int) (q5 : Int × Int × (List Int)) => (p2 fun (y0_7 : Int) (q6 : Int × (List Int)) => (p2 fun (y0_8 : Int) (y0_10 : List Int) =>
(show Option (Bool) from
(d_ops_Check n (⟨y0_1, y0_2, y0_3, y0_4, y0_5, y0_6, y0_7, y0_8, y0_10⟩ : GOp)).bind fun x545 =>
bnd (!x545) fun x546 =>
cond x546 ((d_ops_Bytes n [(⟨y0_1, y0_2, y0_3, y0_4, y0_5, y0_6, y0_7, y0_8, y0_10⟩ : GOp)]).bind fun x547 =>
bnd (decide (x547 = ([] : List UInt8))) fun x548 =>
cond x548 ((d_law05_awake n).bind fun x549 =>
some (x549 : Bool)) (some (false : Bool))) (some (false : Bool))).bind <| fun y1_1 =>
some ((y1_1 : Bool))) q6) q5) q4) q3) q2) q1) q0) (bnd (decide (x5 = 3)) fun x12 =>
cond x12 ((d_ops_Check n (⟨3, 0, 0, 0, 0, 1, 0, 0, []⟩ : GOp)).bind fun x481 =>
bnd (!x481) fun x482 =>
asrt (x482 = false) <|
(d_law00_Place a2 10).bind fun x483 =>
(show Option (Int × Int × Int × Int × Int × Int × Int × Int × (List Int)) from
bnd (decide (x483 = 0)) fun x486 =>
cond x486 (bnd (w64 (16 + x7)) fun x508 =>
some ((x508 : Int), (0 : Int), (0 : Int), (0 : Int), (0 : Int), (1 : Int), (0 : Int), (0 : Int), (([] : List Int) : List Int))) (bnd (decide (x483 = 1)) fun x487 =>
cond x487 (bnd (w64 (0 - x7)) fun x507 =>
some ((x507 : Int), (0 : Int), (0 : Int), (0 : Int), (0 : Int), (1 : Int), (0 : Int), (0 : Int), (([] : List Int) : List Int))) (bnd (decide (x483 = 2)) fun x488 =>
cond x488 (bnd (w64 (3 + x7)) fun x506 =>
some ((3 : Int), (x506 : Int), (0 : Int), (0 : Int), (0 : Int), (1 : Int), (0 : Int), (0 : Int), (([] : List Int) : List Int))) (bnd (decide (x483 = 3)) fun x489 =>
cond x489 (bnd (w64 (0 - x7)) fun x505 =>
some ((3 : Int), (0 : Int), (x505 : Int), (0 : Int), (0 : Int), (1 : Int), (0 : Int), (0 : Int), (([] : List Int) : List Int))) (bnd (decide (x483 = 4)) fun x490 =>
cond x490 (bnd (w64 (1 + x7)) fun x504 =>
some ((3 : Int), (0 : Int), (0 : Int), (x504 : Int), (0 : Int), (1 : Int), (0 : Int), (0 : Int), (([] : List Int) : List Int))) (bnd (decide (x483 = 5)) fun x491 =>
cond x491 (bnd (w64 (3 + x7)) fun x503 =>
some ((3 : Int), (0 : Int), (0 : Int), (0 : Int), (x503 : Int), (1 : Int), (0 : Int), (0 : Int), (([] : List Int) : List Int))) (bnd (decide (x483 = 6)) fun x492 =>
cond x492 (bnd (w64 (0 - x7)) fun x502 =>
some ((3 : Int), (0 : Int), (0 : Int), (0 : Int), (0 : Int), (x502 : Int), (0 : Int), (0 : Int), (([] : List Int) : List Int))) (bnd (decide (x483 = 7)) fun x493 =>
cond x493 (bnd (w64 (1125899906842624 + x7)) fun x501 =>
some ((3 : Int), (0 : Int), (0 : Int), (0 : Int), (0 : Int), (1 : Int), (x501 : Int), (0 : Int), (([] : List Int) : List Int))) (bnd (decide (x483 = 8)) fun x494 =>
cond x494 (bnd (w64 (39 + x7)) fun x500 =>
some ((3 : Int), (0 : Int), (0 : Int), (0 : Int), (0 : Int), (1 : Int), (0 : Int), (x500 : Int), (([] : List Int) : List Int))) (bnd (w64 (0 - x7)) fun x495 =>
bnd (([] : List Int) ++ ([x495] : List Int)) fun x497 =>
asrt (x497.length ≤ 68719476736) <|
some ((3 : Int), (0 : Int), (0 : Int), (0 : Int), (0 : Int), (1 : Int), (0 : Int), (0 : Int), (x497 : List Int)))))))))))).bind <| p2 fun (y0_1 : Int) (q0 : Int × Int × Int × Int × Int × Int × Int × (List Int)) => (p2 fun (y0_2 : Int) (q1 : Int × Int × Int × Int × Int × Int × (List Int)) => (p2 fun (y0_3 : Int) (q2 : Int × Int × Int × Int × Int × (List Int)) => (p2 fun (y0_4 : Int) (q3 : Int × Int × Int × Int × (List Int)) => (p2 fun (y0_5 : Int) (q4 : Int × Int × Int × (List Int)) => (p2 fun (y0_6 : Int) (q5 : Int × Int × (List Int)) => (p2 fun (y0_7 : Int) (q6 : Int × (List Int)) => (p2 fun (y0_8 : Int) (y0_10 : List Int) =>
(show Option (Bool) from
(d_ops_Check n (⟨y0_1, y0_2, y0_3, y0_4, y0_5, y0_6, y0_7, y0_8, y0_10⟩ : GOp)).bind fun x510 =>
bnd (!x510) fun x511 =>
cond x511 ((d_ops_Bytes n [(⟨y0_1, y0_2, y0_3, y0_4, y0_5, y0_6, y0_7, y0_8, y0_10⟩ : GOp)]).bind fun x512 =>
bnd (decide (x512 = ([] : List UInt8))) fun x513 =>
cond x513 ((d_law05_awake n).bind fun x514 =>
some (x514 : Bool)) (some (false : Bool))) (some (false : Bool))).bind <| fun y1_1 =>
some ((y1_1 : Bool))) q6) q5) q4) q3) q2) q1) q0) (bnd (decide (x5 = 4)) fun x13 =>
cond x13 ((d_ops_Check n (⟨4, 0, 0, 0, 0, 1, 0, 0, []⟩ : GOp)).bind fun x446 =>
bnd (!x446) fun x447 =>
asrt (x447 = false) <|
(d_law00_Place a2 10).bind fun x448 =>
(show Option (Int × Int × Int × Int × Int × Int × Int × Int × (List Int)) from
bnd (decide (x448 = 0)) fun x451 =>
cond x451 (bnd (w64 (16 + x7)) fun x473 =>
some ((x473 : Int), (0 : Int), (0 : Int), (0 : Int), (0 : Int), (1 : Int), (0 : Int), (0 : Int), (([] : List Int) : List Int))) (bnd (decide (x448 = 1)) fun x452 =>
cond x452 (bnd (w64 (0 - x7)) fun x472 =>
some ((x472 : Int), (0 : Int), (0 : Int), (0 : Int), (0 : Int), (1 : Int), (0 : Int), (0 : Int), (([] : List Int) : List Int))) (bnd (decide (x448 = 2)) fun x453 =>
cond x453 (bnd (w64 (3 + x7)) fun x471 =>
some ((4 : Int), (x471 : Int), (0 : Int), (0 : Int), (0 : Int), (1 : Int), (0 : Int), (0 : Int), (([] : List Int) : List Int))) (bnd (decide (x448 = 3)) fun x454 =>
cond x454 (bnd (w64 (0 - x7)) fun x470 =>
some ((4 : Int), (0 : Int), (x470 : Int), (0 : Int), (0 : Int), (1 : Int), (0 : Int), (0 : Int), (([] : List Int) : List Int))) (bnd (decide (x448 = 4)) fun x455 =>
cond x455 (bnd (w64 (1 + x7)) fun x469 =>
some ((4 : Int), (0 : Int), (0 : Int), (x469 : Int), (0 : Int), (1 : Int), (0 : Int), (0 : Int), (([] : List Int) : List Int))) (bnd (decide (x448 = 5)) fun x456 =>
cond x456 (bnd (w64 (3 + x7)) fun x468 =>
some ((4 : Int), (0 : Int), (0 : Int), (0 : Int), (x468 : Int), (1 : Int), (0 : Int), (0 : Int), (([] : List Int) : List Int))) (bnd (decide (x448 = 6)) fun x457 =>
cond x457 (bnd (w64 (0 - x7)) fun x467 =>
some ((4 : Int), (0 : Int), (0 : Int), (0 : Int), (0 : Int), (x467 : Int), (0 : Int), (0 : Int), (([] : List Int) : List Int))) (bnd (decide (x448 = 7)) fun x458 =>
cond x458 (bnd (w64 (1125899906842624 + x7)) fun x466 =>
some ((4 : Int), (0 : Int), (0 : Int), (0 : Int), (0 : Int), (1 : Int), (x466 : Int), (0 : Int), (([] : List Int) : List Int))) (bnd (decide (x448 = 8)) fun x459 =>
cond x459 (bnd (w64 (39 + x7)) fun x465 =>
some ((4 : Int), (0 : Int), (0 : Int), (0 : Int), (0 : Int), (1 : Int), (0 : Int), (x465 : Int), (([] : List Int) : List Int))) (bnd (w64 (0 - x7)) fun x460 =>
bnd (([] : List Int) ++ ([x460] : List Int)) fun x462 =>
asrt (x462.length ≤ 68719476736) <|
some ((4 : Int), (0 : Int), (0 : Int), (0 : Int), (0 : Int), (1 : Int), (0 : Int), (0 : Int), (x462 : List Int)))))))))))).bind <| p2 fun (y0_1 : Int) (q0 : Int × Int × Int × Int × Int × Int × Int × (List Int)) => (p2 fun (y0_2 : Int) (q1 : Int × Int × Int × Int × Int × Int × (List Int)) => (p2 fun (y0_3 : Int) (q2 : Int × Int × Int × Int × Int × (List Int)) => (p2 fun (y0_4 : Int) (q3 : Int × Int × Int × Int × (List Int)) => (p2 fun (y0_5 : Int) (q4 : Int × Int × Int × (List Int)) => (p2 fun (y0_6 : Int) (q5 : Int × Int × (List Int)) => (p2 fun (y0_7 : Int) (q6 : Int × (List Int)) => (p2 fun (y0_8 : Int) (y0_10 : List Int) =>
(show Option (Bool) from
(d_ops_Check n (⟨y0_1, y0_2, y0_3, y0_4, y0_5, y0_6, y0_7, y0_8, y0_10⟩ : GOp)).bind fun x475 =>
bnd (!x475) fun x476 =>
cond x476 ((d_ops_Bytes n [(⟨y0_1, y0_2, y0_3, y0_4, y0_5, y0_6, y0_7, y0_8, y0_10⟩ : GOp)]).bind fun x477 =>
bnd (decide (x477 = ([] : List UInt8))) fun x478 =>
cond x478 ((d_law05_awake n).bind fun x479 =>
some (x479 : Bool)) (some (false : Bool))) (some (false : Bool))).bind <| fun y1_1 =>
some ((y1_1 : Bool))) q6) q5) q4) q3) q2) q1) q0) (bnd (decide (x5 = 5)) fun x14 =>
cond x14 ((d_ops_Check n (⟨5, 0, 0, 0, 0, 1, 0, 0, []⟩ : GOp)).bind fun x411 =>
bnd (!x411) fun x412 =>
asrt (x412 = false) <|
(d_law00_Place a2 10).bind fun x413 =>
(show Option (Int × Int × Int × Int × Int × Int × Int × Int × (List Int)) from
bnd (decide (x413 = 0)) fun x416 =>
cond x416 (bnd (w64 (16 + x7)) fun x438 =>
some ((x438 : Int), (0 : Int), (0 : Int), (0 : Int), (0 : Int), (1 : Int), (0 : Int), (0 : Int), (([] : List Int) : List Int))) (bnd (decide (x413 = 1)) fun x417 =>
cond x417 (bnd (w64 (0 - x7)) fun x437 =>
some ((x437 : Int), (0 : Int), (0 : Int), (0 : Int), (0 : Int), (1 : Int), (0 : Int), (0 : Int), (([] : List Int) : List Int))) (bnd (decide (x413 = 2)) fun x418 =>
cond x418 (bnd (w64 (3 + x7)) fun x436 =>
some ((5 : Int), (x436 : Int), (0 : Int), (0 : Int), (0 : Int), (1 : Int), (0 : Int), (0 : Int), (([] : List Int) : List Int))) (bnd (decide (x413 = 3)) fun x419 =>
cond x419 (bnd (w64 (0 - x7)) fun x435 =>
some ((5 : Int), (0 : Int), (x435 : Int), (0 : Int), (0 : Int), (1 : Int), (0 : Int), (0 : Int), (([] : List Int) : List Int))) (bnd (decide (x413 = 4)) fun x420 =>
cond x420 (bnd (w64 (1 + x7)) fun x434 =>
some ((5 : Int), (0 : Int), (0 : Int), (x434 : Int), (0 : Int), (1 : Int), (0 : Int), (0 : Int), (([] : List Int) : List Int))) (bnd (decide (x413 = 5)) fun x421 =>
cond x421 (bnd (w64 (3 + x7)) fun x433 =>
some ((5 : Int), (0 : Int), (0 : Int), (0 : Int), (x433 : Int), (1 : Int), (0 : Int), (0 : Int), (([] : List Int) : List Int))) (bnd (decide (x413 = 6)) fun x422 =>
cond x422 (bnd (w64 (0 - x7)) fun x432 =>
some ((5 : Int), (0 : Int), (0 : Int), (0 : Int), (0 : Int), (x432 : Int), (0 : Int), (0 : Int), (([] : List Int) : List Int))) (bnd (decide (x413 = 7)) fun x423 =>
cond x423 (bnd (w64 (1125899906842624 + x7)) fun x431 =>
some ((5 : Int), (0 : Int), (0 : Int), (0 : Int), (0 : Int), (1 : Int), (x431 : Int), (0 : Int), (([] : List Int) : List Int))) (bnd (decide (x413 = 8)) fun x424 =>
cond x424 (bnd (w64 (39 + x7)) fun x430 =>
some ((5 : Int), (0 : Int), (0 : Int), (0 : Int), (0 : Int), (1 : Int), (0 : Int), (x430 : Int), (([] : List Int) : List Int))) (bnd (w64 (0 - x7)) fun x425 =>
bnd (([] : List Int) ++ ([x425] : List Int)) fun x427 =>
asrt (x427.length ≤ 68719476736) <|
some ((5 : Int), (0 : Int), (0 : Int), (0 : Int), (0 : Int), (1 : Int), (0 : Int), (0 : Int), (x427 : List Int)))))))))))).bind <| p2 fun (y0_1 : Int) (q0 : Int × Int × Int × Int × Int × Int × Int × (List Int)) => (p2 fun (y0_2 : Int) (q1 : Int × Int × Int × Int × Int × Int × (List Int)) => (p2 fun (y0_3 : Int) (q2 : Int × Int × Int × Int × Int × (List Int)) => (p2 fun (y0_4 : Int) (q3 : Int × Int × Int × Int × (List Int)) => (p2 fun (y0_5 : Int) (q4 : Int × Int × Int × (List Int)) => (p2 fun (y0_6 : Int) (q5 : Int × Int × (List Int)) => (p2 fun (y0_7 : Int) (q6 : Int × (List Int)) => (p2 fun (y0_8 : Int) (y0_10 : List Int) =>
(show Option (Bool) from
(d_ops_Check n (⟨y0_1, y0_2, y0_3, y0_4, y0_5, y0_6, y0_7, y0_8, y0_10⟩ : GOp)).bind fun x440 =>
bnd (!x440) fun x441 =>
cond x441 ((d_ops_Bytes n [(⟨y0_1, y0_2, y0_3, y0_4, y0_5, y0_6, y0_7, y0_8, y0_10⟩ : GOp)]).bind fun x442 =>
bnd (decide (x442 = ([] : List UInt8))) fun x443 =>
cond x443 ((d_law05_awake n).bind fun x444 =>
some (x444 : Bool)) (some (false : Bool))) (some (false : Bool))).bind <| fun y1_1 =>
some ((y1_1 : Bool))) q6) q5) q4) q3) q2) q1) q0) (bnd (decide (x5 = 6)) fun x15 =>
cond x15 ((d_ops_Check n (⟨6, 0, 0, 0, 0, 1, 0, 0, []⟩ : GOp)).bind fun x376 =>
bnd (!x376) fun x377 =>
asrt (x377 = false) <|
(d_law00_Place a2 10).bind fun x378 =>
(show Option (Int × Int × Int × Int × Int × Int × Int × Int × (List Int)) from
bnd (decide (x378 = 0)) fun x381 =>
cond x381 (bnd (w64 (16 + x7)) fun x403 =>
some ((x403 : Int), (0 : Int), (0 : Int), (0 : Int), (0 : Int), (1 : Int), (0 : Int), (0 : Int), (([] : List Int) : List Int))) (bnd (decide (x378 = 1)) fun x382 =>
cond x382 (bnd (w64 (0 - x7)) fun x402 =>
some ((x402 : Int), (0 : Int), (0 : Int), (0 : Int), (0 : Int), (1 : Int), (0 : Int), (0 : Int), (([] : List Int) : List Int))) (bnd (decide (x378 = 2)) fun x383 =>
cond x383 (bnd (w64 (3 + x7)) fun x401 =>
some ((6 : Int), (x401 : Int), (0 : Int), (0 : Int), (0 : Int), (1 : Int), (0 : Int), (0 : Int), (([] : List Int) : List Int))) (bnd (decide (x378 = 3)) fun x384 =>
cond x384 (bnd (w64 (0 - x7)) fun x400 =>
some ((6 : Int), (0 : Int), (x400 : Int), (0 : Int), (0 : Int), (1 : Int), (0 : Int), (0 : Int), (([] : List Int) : List Int))) (bnd (decide (x378 = 4)) fun x385 =>
cond x385 (bnd (w64 (1 + x7)) fun x399 =>
some ((6 : Int), (0 : Int), (0 : Int), (x399 : Int), (0 : Int), (1 : Int), (0 : Int), (0 : Int), (([] : List Int) : List Int))) (bnd (decide (x378 = 5)) fun x386 =>
cond x386 (bnd (w64 (3 + x7)) fun x398 =>
some ((6 : Int), (0 : Int), (0 : Int), (0 : Int), (x398 : Int), (1 : Int), (0 : Int), (0 : Int), (([] : List Int) : List Int))) (bnd (decide (x378 = 6)) fun x387 =>
cond x387 (bnd (w64 (0 - x7)) fun x397 =>
some ((6 : Int), (0 : Int), (0 : Int), (0 : Int), (0 : Int), (x397 : Int), (0 : Int), (0 : Int), (([] : List Int) : List Int))) (bnd (decide (x378 = 7)) fun x388 =>
cond x388 (bnd (w64 (1125899906842624 + x7)) fun x396 =>
some ((6 : Int), (0 : Int), (0 : Int), (0 : Int), (0 : Int), (1 : Int), (x396 : Int), (0 : Int), (([] : List Int) : List Int))) (bnd (decide (x378 = 8)) fun x389 =>
cond x389 (bnd (w64 (39 + x7)) fun x395 =>
some ((6 : Int), (0 : Int), (0 : Int), (0 : Int), (0 : Int), (1 : Int), (0 : Int), (x395 : Int), (([] : List Int) : List Int))) (bnd (w64 (0 - x7)) fun x390 =>
bnd (([] : List Int) ++ ([x390] : List Int)) fun x392 =>
asrt (x392.length ≤ 68719476736) <|
some ((6 : Int), (0 : Int), (0 : Int), (0 : Int), (0 : Int), (1 : Int), (0 : Int), (0 : Int), (x392 : List Int)))))))))))).bind <| p2 fun (y0_1 : Int) (q0 : Int × Int × Int × Int × Int × Int × Int × (List Int)) => (p2 fun (y0_2 : Int) (q1 : Int × Int × Int × Int × Int × Int × (List Int)) => (p2 fun (y0_3 : Int) (q2 : Int × Int × Int × Int × Int × (List Int)) => (p2 fun (y0_4 : Int) (q3 : Int × Int × Int × Int × (List Int)) => (p2 fun (y0_5 : Int) (q4 : Int × Int × Int × (List Int)) => (p2 fun (y0_6 : Int) (q5 : Int × Int × (List Int)) => (p2 fun (y0_7 : Int) (q6 : Int × (List Int)) => (p2 fun (y0_8 : Int) (y0_10 : List Int) =>
(show Option (Bool) from
(d_ops_Check n (⟨y0_1, y0_2, y0_3, y0_4, y0_5, y0_6, y0_7, y0_8, y0_10⟩ : GOp)).bind fun x405 =>
bnd (!x405) fun x406 =>
cond x406 ((d_ops_Bytes n [(⟨y0_1, y0_2, y0_3, y0_4, y0_5, y0_6, y0_7, y0_8, y0_10⟩ : GOp)]).bind fun x407 =>
bnd (decide (x407 = ([] : List UInt8))) fun x408 =>
cond x408 ((d_law05_awake n).bind fun x409 =>
some (x409 : Bool)) (some (false : Bool))) (some (false : Bool))).bind <| fun y1_1 =>
some ((y1_1 : Bool))) q6) q5) q4) q3) q2) q1) q0) (bnd (decide (x5 = 7)) fun x16 =>
cond x16 ((d_ops_Check n (⟨7, 0, 0, 0, 0, 0, 0, 0, []⟩ : GOp)).bind fun x341 =>
bnd (!x341) fun x342 =>
asrt (x342 = false) <|
(d_law00_Place a2 10).bind fun x343 =>
(show Option (Int × Int × Int × Int × Int × Int × Int × Int × (List Int)) from
bnd (decide (x343 = 0)) fun x346 =>
cond x346 (bnd (w64 (16 + x7)) fun x368 =>
some ((x368 : Int), (0 : Int), (0 : Int), (0 : Int), (0 : Int), (0 : Int), (0 : Int), (0 : Int), (([] : List Int) : List Int))) (bnd (decide (x343 = 1)) fun x347 =>
cond x347 (bnd (w64 (0 - x7)) fun x367 =>
some ((x367 : Int), (0 : Int), (0 : Int), (0 : Int), (0 : Int), (0 : Int), (0 : Int), (0 : Int), (([] : List Int) : List Int))) (bnd (decide (x343 = 2)) fun x348 =>
cond x348 (bnd (w64 (3 + x7)) fun x366 =>
some ((7 : Int), (x366 : Int), (0 : Int), (0 : Int), (0 : Int), (0 : Int), (0 : Int), (0 : Int), (([] : List Int) : List Int))) (bnd (decide (x343 = 3)) fun x349 =>
cond x349 (bnd (w64 (0 - x7)) fun x365 =>
some ((7 : Int), (0 : Int), (x365 : Int), (0 : Int), (0 : Int), (0 : Int), (0 : Int), (0 : Int), (([] : List Int) : List Int))) (bnd (decide (x343 = 4)) fun x350 =>
cond x350 (bnd (w64 (1 + x7)) fun x364 =>
some ((7 : Int), (0 : Int), (0 : Int), (x364 : Int), (0 : Int), (0 : Int), (0 : Int), (0 : Int), (([] : List Int) : List Int))) (bnd (decide (x343 = 5)) fun x351 =>
cond x351 (bnd (w64 (3 + x7)) fun x363 =>
some ((7 : Int), (0 : Int), (0 : Int), (0 : Int), (x363 : Int), (0 : Int), (0 : Int), (0 : Int), (([] : List Int) : List Int))) (bnd (decide (x343 = 6)) fun x352 =>
cond x352 (bnd (w64 (0 - x7)) fun x362 =>
some ((7 : Int), (0 : Int), (0 : Int), (0 : Int), (0 : Int), (x362 : Int), (0 : Int), (0 : Int), (([] : List Int) : List Int))) (bnd (decide (x343 = 7)) fun x353 =>
cond x353 (bnd (w64 (1125899906842624 + x7)) fun x361 =>
some ((7 : Int), (0 : Int), (0 : Int), (0 : Int), (0 : Int), (0 : Int), (x361 : Int), (0 : Int), (([] : List Int) : List Int))) (bnd (decide (x343 = 8)) fun x354 =>
cond x354 (bnd (w64 (39 + x7)) fun x360 =>
some ((7 : Int), (0 : Int), (0 : Int), (0 : Int), (0 : Int), (0 : Int), (0 : Int), (x360 : Int), (([] : List Int) : List Int))) (bnd (w64 (0 - x7)) fun x355 =>
bnd (([] : List Int) ++ ([x355] : List Int)) fun x357 =>
asrt (x357.length ≤ 68719476736) <|
some ((7 : Int), (0 : Int), (0 : Int), (0 : Int), (0 : Int), (0 : Int), (0 : Int), (0 : Int), (x357 : List Int)))))))))))).bind <| p2 fun (y0_1 : Int) (q0 : Int × Int × Int × Int × Int × Int × Int × (List Int)) => (p2 fun (y0_2 : Int) (q1 : Int × Int × Int × Int × Int × Int × (List Int)) => (p2 fun (y0_3 : Int) (q2 : Int × Int × Int × Int × Int × (List Int)) => (p2 fun (y0_4 : Int) (q3 : Int × Int × Int × Int × (List Int)) => (p2 fun (y0_5 : Int) (q4 : Int × Int × Int × (List Int)) => (p2 fun (y0_6 : Int) (q5 : Int × Int × (List Int)) => (p2 fun (y0_7 : Int) (q6 : Int × (List Int)) => (p2 fun (y0_8 : Int) (y0_10 : List Int) =>
(show Option (Bool) from
(d_ops_Check n (⟨y0_1, y0_2, y0_3, y0_4, y0_5, y0_6, y0_7, y0_8, y0_10⟩ : GOp)).bind fun x370 =>
bnd (!x370) fun x371 =>
cond x371 ((d_ops_Bytes n [(⟨y0_1, y0_2, y0_3, y0_4, y0_5, y0_6, y0_7, y0_8, y0_10⟩ : GOp)]).bind fun x372 =>
bnd (decide (x372 = ([] : List UInt8))) fun x373 =>
cond x373 ((d_law05_awake n).bind fun x374 =>
some (x374 : Bool)) (some (false : Bool))) (some (false : Bool))).bind <| fun y1_1 =>
some ((y1_1 : Bool))) q6) q5) q4) q3) q2) q1) q0) (bnd (decide (x5 = 8)) fun x17 =>
cond x17 ((d_ops_Check n (⟨8, 0, 0, 0, 1, 1, 0, 0, []⟩ : GOp)).bind fun x306 =>
bnd (!x306) fun x307 =>
asrt (x307 = false) <|
(d_law00_Place a2 10).bind fun x308 =>
(show Option (Int × Int × Int × Int × Int × Int × Int × Int × (List Int)) from
bnd (decide (x308 = 0)) fun x311 =>
cond x311 (bnd (w64 (16 + x7)) fun x333 =>
some ((x333 : Int), (0 : Int), (0 : Int), (0 : Int), (1 : Int), (1 : Int), (0 : Int), (0 : Int), (([] : List Int) : List Int))) (bnd (decide (x308 = 1)) fun x312 =>
cond x312 (bnd (w64 (0 - x7)) fun x332 =>
some ((x332 : Int), (0 : Int), (0 : Int), (0 : Int), (1 : Int), (1 : Int), (0 : Int), (0 : Int), (([] : List Int) : List Int))) (bnd (decide (x308 = 2)) fun x313 =>
cond x313 (bnd (w64 (3 + x7)) fun x331 =>
some ((8 : Int), (x331 : Int), (0 : Int), (0 : Int), (1 : Int), (1 : Int), (0 : Int), (0 : Int), (([] : List Int) : List Int))) (bnd (decide (x308 = 3)) fun x314 =>
cond x314 (bnd (w64 (0 - x7)) fun x330 =>
some ((8 : Int), (0 : Int), (x330 : Int), (0 : Int), (1 : Int), (1 : Int), (0 : Int), (0 : Int), (([] : List Int) : List Int))) (bnd (decide (x308 = 4)) fun x315 =>
cond x315 (bnd (w64 (1 + x7)) fun x329 =>
some ((8 : Int), (0 : Int), (0 : Int), (x329 : Int), (1 : Int), (1 : Int), (0 : Int), (0 : Int), (([] : List Int) : List Int))) (bnd (decide (x308 = 5)) fun x316 =>
cond x316 (bnd (w64 (3 + x7)) fun x328 =>
some ((8 : Int), (0 : Int), (0 : Int), (0 : Int), (x328 : Int), (1 : Int), (0 : Int), (0 : Int), (([] : List Int) : List Int))) (bnd (decide (x308 = 6)) fun x317 =>
cond x317 (bnd (w64 (0 - x7)) fun x327 =>
some ((8 : Int), (0 : Int), (0 : Int), (0 : Int), (1 : Int), (x327 : Int), (0 : Int), (0 : Int), (([] : List Int) : List Int))) (bnd (decide (x308 = 7)) fun x318 =>
cond x318 (bnd (w64 (1125899906842624 + x7)) fun x326 =>
some ((8 : Int), (0 : Int), (0 : Int), (0 : Int), (1 : Int), (1 : Int), (x326 : Int), (0 : Int), (([] : List Int) : List Int))) (bnd (decide (x308 = 8)) fun x319 =>
cond x319 (bnd (w64 (39 + x7)) fun x325 =>
some ((8 : Int), (0 : Int), (0 : Int), (0 : Int), (1 : Int), (1 : Int), (0 : Int), (x325 : Int), (([] : List Int) : List Int))) (bnd (w64 (0 - x7)) fun x320 =>
bnd (([] : List Int) ++ ([x320] : List Int)) fun x322 =>
asrt (x322.length ≤ 68719476736) <|
some ((8 : Int), (0 : Int), (0 : Int), (0 : Int), (1 : Int), (1 : Int), (0 : Int), (0 : Int), (x322 : List Int)))))))))))).bind <| p2 fun (y0_1 : Int) (q0 : Int × Int × Int × Int × Int × Int × Int × (List Int)) => (p2 fun (y0_2 : Int) (q1 : Int × Int × Int × Int × Int × Int × (List Int)) => (p2 fun (y0_3 : Int) (q2 : Int × Int × Int × Int × Int × (List Int)) => (p2 fun (y0_4 : Int) (q3 : Int × Int × Int × Int × (List Int)) => (p2 fun (y0_5 : Int) (q4 : Int × Int × Int × (List Int)) => (p2 fun (y0_6 : Int) (q5 : Int × Int × (List Int)) => (p2 fun (y0_7 : Int) (q6 : Int × (List Int)) => (p2 fun (y0_8 : Int) (y0_10 : List Int) =>
(show Option (Bool) from
(d_ops_Check n (⟨y0_1, y0_2, y0_3, y0_4, y0_5, y0_6, y0_7, y0_8, y0_10⟩ : GOp)).bind fun x335 =>
bnd (!x335) fun x336 =>
cond x336 ((d_ops_Bytes n [(⟨y0_1, y0_2, y0_3, y0_4, y0_5, y0_6, y0_7, y0_8, y0_10⟩ : GOp)]).bind fun x337 =>
bnd (decide (x337 = ([] : List UInt8))) fun x338 =>
cond x338 ((d_law05_awake n).bind fun x339 =>
some (x339 : Bool)) (some (false : Bool))) (some (false : Bool))).bind <| fun y1_1 =>
some ((y1_1 : Bool))) q6) q5) q4) q3) q2) q1) q0) (bnd (decide (x5 = 9)) fun x18 =>
cond x18 ((d_ops_Check n (⟨9, 0, 0, 0, 0, 0, 0, 0, []⟩ : GOp)).bind fun x271 =>
bnd (!x271) fun x272 =>
asrt (x272 = false) <|
(d_law00_Place a2 10).bind fun x273 =>
(show Option (Int × Int × Int × Int × Int × Int × Int × Int × (List Int)) from
bnd (decide (x273 = 0)) fun x276 =>
cond x276 (bnd (w64 (16 + x7)) fun x298 =>
some ((x298 : Int), (0 : Int), (0 : Int), (0 : Int), (0 : Int), (0 : Int), (0 : Int), (0 : Int), (([] : List Int) : List Int))) (bnd (decide (x273 = 1)) fun x277 =>
cond x277 (bnd (w64 (0 - x7)) fun x297 =>
some ((x297 : Int), (0 : Int), (0 : Int), (0 : Int), (0 : Int), (0 : Int), (0 : Int), (0 : Int), (([] : List Int) : List Int))) (bnd (decide (x273 = 2)) fun x278 =>
cond x278 (bnd (w64 (3 + x7)) fun x296 =>
some ((9 : Int), (x296 : Int), (0 : Int), (0 : Int), (0 : Int), (0 : Int), (0 : Int), (0 : Int), (([] : List Int) : List Int))) (bnd (decide (x273 = 3)) fun x279 =>
cond x279 (bnd (w64 (0 - x7)) fun x295 =>
some ((9 : Int), (0 : Int), (x295 : Int), (0 : Int), (0 : Int), (0 : Int), (0 : Int), (0 : Int), (([] : List Int) : List Int))) (bnd (decide (x273 = 4)) fun x280 =>
cond x280 (bnd (w64 (1 + x7)) fun x294 =>
some ((9 : Int), (0 : Int), (0 : Int), (x294 : Int), (0 : Int), (0 : Int), (0 : Int), (0 : Int), (([] : List Int) : List Int))) (bnd (decide (x273 = 5)) fun x281 =>
cond x281 (bnd (w64 (3 + x7)) fun x293 =>
some ((9 : Int), (0 : Int), (0 : Int), (0 : Int), (x293 : Int), (0 : Int), (0 : Int), (0 : Int), (([] : List Int) : List Int))) (bnd (decide (x273 = 6)) fun x282 =>
cond x282 (bnd (w64 (0 - x7)) fun x292 =>
some ((9 : Int), (0 : Int), (0 : Int), (0 : Int), (0 : Int), (x292 : Int), (0 : Int), (0 : Int), (([] : List Int) : List Int))) (bnd (decide (x273 = 7)) fun x283 =>
cond x283 (bnd (w64 (1125899906842624 + x7)) fun x291 =>
some ((9 : Int), (0 : Int), (0 : Int), (0 : Int), (0 : Int), (0 : Int), (x291 : Int), (0 : Int), (([] : List Int) : List Int))) (bnd (decide (x273 = 8)) fun x284 =>
cond x284 (bnd (w64 (39 + x7)) fun x290 =>
some ((9 : Int), (0 : Int), (0 : Int), (0 : Int), (0 : Int), (0 : Int), (0 : Int), (x290 : Int), (([] : List Int) : List Int))) (bnd (w64 (0 - x7)) fun x285 =>
bnd (([] : List Int) ++ ([x285] : List Int)) fun x287 =>
asrt (x287.length ≤ 68719476736) <|
some ((9 : Int), (0 : Int), (0 : Int), (0 : Int), (0 : Int), (0 : Int), (0 : Int), (0 : Int), (x287 : List Int)))))))))))).bind <| p2 fun (y0_1 : Int) (q0 : Int × Int × Int × Int × Int × Int × Int × (List Int)) => (p2 fun (y0_2 : Int) (q1 : Int × Int × Int × Int × Int × Int × (List Int)) => (p2 fun (y0_3 : Int) (q2 : Int × Int × Int × Int × Int × (List Int)) => (p2 fun (y0_4 : Int) (q3 : Int × Int × Int × Int × (List Int)) => (p2 fun (y0_5 : Int) (q4 : Int × Int × Int × (List Int)) => (p2 fun (y0_6 : Int) (q5 : Int × Int × (List Int)) => (p2 fun (y0_7 : Int) (q6 : Int × (List Int)) => (p2 fun (y0_8 : Int) (y0_10 : List Int) =>
(show Option (Bool) from
(d_ops_Check n (⟨y0_1, y0_2, y0_3, y0_4, y0_5, y0_6, y0_7, y0_8, y0_10⟩ : GOp)).bind fun x300 =>
bnd (!x300) fun x301 =>
cond x301 ((d_ops_Bytes n [(⟨y0_1, y0_2, y0_3, y0_4, y0_5, y0_6, y0_7, y0_8, y0_10⟩ : GOp)]).bind fun x302 =>
bnd (decide (x302 = ([] : List UInt8))) fun x303 =>
cond x303 ((d_law05_awake n).bind fun x304 =>
some (x304 : Bool)) (some (false : Bool))) (some (false : Bool))).bind <| fun y1_1 =>
some ((y1_1 : Bool))) q6) q5) q4) q3) q2) q1) q0) (bnd (decide (x5 = 10)) fun x19 =>
cond x19 ((d_ops_Check n (⟨10, 0, 0, 0, 0, 0, 0, 0, []⟩ : GOp)).bind fun x236 =>
bnd (!x236) fun x237 =>
asrt (x237 = false) <|
(d_law00_Place a2 10).bind fun x238 =>
(show Option (Int × Int × Int × Int × Int × Int × Int × Int × (List Int)) from
bnd (decide (x238 = 0)) fun x241 =>
cond x241 (bnd (w64 (16 + x7)) fun x263 =>
some ((x263 : Int), (0 : Int), (0 : Int), (0 : Int), (0 : Int), (0 : Int), (0 : Int), (0 : Int), (([] : List Int) : List Int))) (bnd (decide (x238 = 1)) fun x242 =>
cond x242 (bnd (w64 (0 - x7)) fun x262 =>
some ((x262 : Int), (0 : Int), (0 : Int), (0 : Int), (0 : Int), (0 : Int), (0 : Int), (0 : Int), (([] : List Int) : List Int))) (bnd (decide (x238 = 2)) fun x243 =>
cond x243 (bnd (w64 (3 + x7)) fun x261 =>
some ((10 : Int), (x261 : Int), (0 : Int), (0 : Int), (0 : Int), (0 : Int), (0 : Int), (0 : Int), (([] : List Int) : List Int))) (bnd (decide (x238 = 3)) fun x244 =>
cond x244 (bnd (w64 (0 - x7)) fun x260 =>
some ((10 : Int), (0 : Int), (x260 : Int), (0 : Int), (0 : Int), (0 : Int), (0 : Int), (0 : Int), (([] : List Int) : List Int))) (bnd (decide (x238 = 4)) fun x245 =>
cond x245 (bnd (w64 (1 + x7)) fun x259 =>
some ((10 : Int), (0 : Int), (0 : Int), (x259 : Int), (0 : Int), (0 : Int), (0 : Int), (0 : Int), (([] : List Int) : List Int))) (bnd (decide (x238 = 5)) fun x246 =>
cond x246 (bnd (w64 (3 + x7)) fun x258 =>
some ((10 : Int), (0 : Int), (0 : Int), (0 : Int), (x258 : Int), (0 : Int), (0 : Int), (0 : Int), (([] : List Int) : List Int))) (bnd (decide (x238 = 6)) fun x247 =>
cond x247 (bnd (w64 (0 - x7)) fun x257 =>
some ((10 : Int), (0 : Int), (0 : Int), (0 : Int), (0 : Int), (x257 : Int), (0 : Int), (0 : Int), (([] : List Int) : List Int))) (bnd (decide (x238 = 7)) fun x248 =>
cond x248 (bnd (w64 (1125899906842624 + x7)) fun x256 =>
some ((10 : Int), (0 : Int), (0 : Int), (0 : Int), (0 : Int), (0 : Int), (x256 : Int), (0 : Int), (([] : List Int) : List Int))) (bnd (decide (x238 = 8)) fun x249 =>
cond x249 (bnd (w64 (39 + x7)) fun x255 =>
some ((10 : Int), (0 : Int), (0 : Int), (0 : Int), (0 : Int), (0 : Int), (0 : Int), (x255 : Int), (([] : List Int) : List Int))) (bnd (w64 (0 - x7)) fun x250 =>
bnd (([] : List Int) ++ ([x250] : List Int)) fun x252 =>
asrt (x252.length ≤ 68719476736) <|
some ((10 : Int), (0 : Int), (0 : Int), (0 : Int), (0 : Int), (0 : Int), (0 : Int), (0 : Int), (x252 : List Int)))))))))))).bind <| p2 fun (y0_1 : Int) (q0 : Int × Int × Int × Int × Int × Int × Int × (List Int)) => (p2 fun (y0_2 : Int) (q1 : Int × Int × Int × Int × Int × Int × (List Int)) => (p2 fun (y0_3 : Int) (q2 : Int × Int × Int × Int × Int × (List Int)) => (p2 fun (y0_4 : Int) (q3 : Int × Int × Int × Int × (List Int)) => (p2 fun (y0_5 : Int) (q4 : Int × Int × Int × (List Int)) => (p2 fun (y0_6 : Int) (q5 : Int × Int × (List Int)) => (p2 fun (y0_7 : Int) (q6 : Int × (List Int)) => (p2 fun (y0_8 : Int) (y0_10 : List Int) =>
(show Option (Bool) from
(d_ops_Check n (⟨y0_1, y0_2, y0_3, y0_4, y0_5, y0_6, y0_7, y0_8, y0_10⟩ : GOp)).bind fun x265 =>
bnd (!x265) fun x266 =>
cond x266 ((d_ops_Bytes n [(⟨y0_1, y0_2, y0_3, y0_4, y0_5, y0_6, y0_7, y0_8, y0_10⟩ : GOp)]).bind fun x267 =>
bnd (decide (x267 = ([] : List UInt8))) fun x268 =>
cond x268 ((d_law05_awake n).bind fun x269 =>
some (x269 : Bool)) (some (false : Bool))) (some (false : Bool))).bind <| fun y1_1 =>
some ((y1_1 : Bool))) q6) q5) q4) q3) q2) q1) q0) (bnd (decide (x5 = 11)) fun x20 =>
cond x20 ((d_ops_Check n (⟨11, 0, 0, 0, 0, 0, 0, 0, ([0] : List Int)⟩ : GOp)).bind fun x202 =>
bnd (!x202) fun x203 =>
asrt (x203 = false) <|
(d_law00_Place a2 10).bind fun x204 =>
(show Option (Int × Int × Int × Int × Int × Int × Int × Int × (List Int)) from
bnd (decide (x204 = 0)) fun x206 =>
cond x206 (bnd (w64 (16 + x7)) fun x228 =>
some ((x228 : Int), (0 : Int), (0 : Int), (0 : Int), (0 : Int), (0 : Int), (0 : Int), (0 : Int), (([0] : List Int) : List Int))) (bnd (decide (x204 = 1)) fun x207 =>
cond x207 (bnd (w64 (0 - x7)) fun x227 =>
some ((x227 : Int), (0 : Int), (0 : Int), (0 : Int), (0 : Int), (0 : Int), (0 : Int), (0 : Int), (([0] : List Int) : List Int))) (bnd (decide (x204 = 2)) fun x208 =>
cond x208 (bnd (w64 (3 + x7)) fun x226 =>
some ((11 : Int), (x226 : Int), (0 : Int), (0 : Int), (0 : Int), (0 : Int), (0 : Int), (0 : Int), (([0] : List Int) : List Int))) (bnd (decide (x204 = 3)) fun x209 =>
cond x209 (bnd (w64 (0 - x7)) fun x225 =>
some ((11 : Int), (0 : Int), (x225 : Int), (0 : Int), (0 : Int), (0 : Int), (0 : Int), (0 : Int), (([0] : List Int) : List Int))) (bnd (decide (x204 = 4)) fun x210 =>
cond x210 (bnd (w64 (1 + x7)) fun x224 =>
some ((11 : Int), (0 : Int), (0 : Int), (x224 : Int), (0 : Int), (0 : Int), (0 : Int), (0 : Int), (([0] : List Int) : List Int))) (bnd (decide (x204 = 5)) fun x211 =>
cond x211 (bnd (w64 (3 + x7)) fun x223 =>
some ((11 : Int), (0 : Int), (0 : Int), (0 : Int), (x223 : Int), (0 : Int), (0 : Int), (0 : Int), (([0] : List Int) : List Int))) (bnd (decide (x204 = 6)) fun x212 =>
cond x212 (bnd (w64 (0 - x7)) fun x222 =>
some ((11 : Int), (0 : Int), (0 : Int), (0 : Int), (0 : Int), (x222 : Int), (0 : Int), (0 : Int), (([0] : List Int) : List Int))) (bnd (decide (x204 = 7)) fun x213 =>
cond x213 (bnd (w64 (1125899906842624 + x7)) fun x221 =>
some ((11 : Int), (0 : Int), (0 : Int), (0 : Int), (0 : Int), (0 : Int), (x221 : Int), (0 : Int), (([0] : List Int) : List Int))) (bnd (decide (x204 = 8)) fun x214 =>
cond x214 (bnd (w64 (39 + x7)) fun x220 =>
some ((11 : Int), (0 : Int), (0 : Int), (0 : Int), (0 : Int), (0 : Int), (0 : Int), (x220 : Int), (([0] : List Int) : List Int))) (bnd (w64 (0 - x7)) fun x215 =>
bnd (([0] : List Int) ++ ([x215] : List Int)) fun x217 =>
asrt (x217.length ≤ 68719476736) <|
some ((11 : Int), (0 : Int), (0 : Int), (0 : Int), (0 : Int), (0 : Int), (0 : Int), (0 : Int), (x217 : List Int)))))))))))).bind <| p2 fun (y0_1 : Int) (q0 : Int × Int × Int × Int × Int × Int × Int × (List Int)) => (p2 fun (y0_2 : Int) (q1 : Int × Int × Int × Int × Int × Int × (List Int)) => (p2 fun (y0_3 : Int) (q2 : Int × Int × Int × Int × Int × (List Int)) => (p2 fun (y0_4 : Int) (q3 : Int × Int × Int × Int × (List Int)) => (p2 fun (y0_5 : Int) (q4 : Int × Int × Int × (List Int)) => (p2 fun (y0_6 : Int) (q5 : Int × Int × (List Int)) => (p2 fun (y0_7 : Int) (q6 : Int × (List Int)) => (p2 fun (y0_8 : Int) (y0_10 : List Int) =>
(show Option (Bool) from
(d_ops_Check n (⟨y0_1, y0_2, y0_3, y0_4, y0_5, y0_6, y0_7, y0_8, y0_10⟩ : GOp)).bind fun x230 =>
bnd (!x230) fun x231 =>
cond x231 ((d_ops_Bytes n [(⟨y0_1, y0_2, y0_3, y0_4, y0_5, y0_6, y0_7, y0_8, y0_10⟩ : GOp)]).bind fun x232 =>
bnd (decide (x232 = ([] : List UInt8))) fun x233 =>
cond x233 ((d_law05_awake n).bind fun x234 =>
some (x234 : Bool)) (some (false : Bool))) (some (false : Bool))).bind <| fun y1_1 =>
some ((y1_1 : Bool))) q6) q5) q4) q3) q2) q1) q0) (bnd (decide (x5 = 12)) fun x21 =>
cond x21 ((d_ops_Check n (⟨12, 0, 0, 0, 1, 1, 0, 0, []⟩ : GOp)).bind fun x167 =>
bnd (!x167) fun x168 =>
asrt (x168 = false) <|
(d_law00_Place a2 10).bind fun x169 =>
(show Option (Int × Int × Int × Int × Int × Int × Int × Int × (List Int)) from
bnd (decide (x169 = 0)) fun x172 =>
cond x172 (bnd (w64 (16 + x7)) fun x194 =>
some ((x194 : Int), (0 : Int), (0 : Int), (0 : Int), (1 : Int), (1 : Int), (0 : Int), (0 : Int), (([] : List Int) : List Int))) (bnd (decide (x169 = 1)) fun x173 =>
cond x173 (bnd (w64 (0 - x7)) fun x193 =>
some ((x193 : Int), (0 : Int), (0 : Int), (0 : Int), (1 : Int), (1 : Int), (0 : Int), (0 : Int), (([] : List Int) : List Int))) (bnd (decide (x169 = 2)) fun x174 =>
cond x174 (bnd (w64 (3 + x7)) fun x192 =>
some ((12 : Int), (x192 : Int), (0 : Int), (0 : Int), (1 : Int), (1 : Int), (0 : Int), (0 : Int), (([] : List Int) : List Int))) (bnd (decide (x169 = 3)) fun x175 =>
cond x175 (bnd (w64 (0 - x7)) fun x191 =>
some ((12 : Int), (0 : Int), (x191 : Int), (0 : Int), (1 : Int), (1 : Int), (0 : Int), (0 : Int), (([] : List Int) : List Int))) (bnd (decide (x169 = 4)) fun x176 =>
cond x176 (bnd (w64 (1 + x7)) fun x190 =>
some ((12 : Int), (0 : Int), (0 : Int), (x190 : Int), (1 : Int), (1 : Int), (0 : Int), (0 : Int), (([] : List Int) : List Int))) (bnd (decide (x169 = 5)) fun x177 =>
cond x177 (bnd (w64 (3 + x7)) fun x189 =>
some ((12 : Int), (0 : Int), (0 : Int), (0 : Int), (x189 : Int), (1 : Int), (0 : Int), (0 : Int), (([] : List Int) : List Int))) (bnd (decide (x169 = 6)) fun x178 =>
cond x178 (bnd (w64 (0 - x7)) fun x188 =>
some ((12 : Int), (0 : Int), (0 : Int), (0 : Int), (1 : Int), (x188 : Int), (0 : Int), (0 : Int), (([] : List Int) : List Int))) (bnd (decide (x169 = 7)) fun x179 =>
cond x179 (bnd (w64 (1125899906842624 + x7)) fun x187 =>
some ((12 : Int), (0 : Int), (0 : Int), (0 : Int), (1 : Int), (1 : Int), (x187 : Int), (0 : Int), (([] : List Int) : List Int))) (bnd (decide (x169 = 8)) fun x180 =>
cond x180 (bnd (w64 (39 + x7)) fun x186 =>
some ((12 : Int), (0 : Int), (0 : Int), (0 : Int), (1 : Int), (1 : Int), (0 : Int), (x186 : Int), (([] : List Int) : List Int))) (bnd (w64 (0 - x7)) fun x181 =>
bnd (([] : List Int) ++ ([x181] : List Int)) fun x183 =>
asrt (x183.length ≤ 68719476736) <|
some ((12 : Int), (0 : Int), (0 : Int), (0 : Int), (1 : Int), (1 : Int), (0 : Int), (0 : Int), (x183 : List Int)))))))))))).bind <| p2 fun (y0_1 : Int) (q0 : Int × Int × Int × Int × Int × Int × Int × (List Int)) => (p2 fun (y0_2 : Int) (q1 : Int × Int × Int × Int × Int × Int × (List Int)) => (p2 fun (y0_3 : Int) (q2 : Int × Int × Int × Int × Int × (List Int)) => (p2 fun (y0_4 : Int) (q3 : Int × Int × Int × Int × (List Int)) => (p2 fun (y0_5 : Int) (q4 : Int × Int × Int × (List Int)) => (p2 fun (y0_6 : Int) (q5 : Int × Int × (List Int)) => (p2 fun (y0_7 : Int) (q6 : Int × (List Int)) => (p2 fun (y0_8 : Int) (y0_10 : List Int) =>
(show Option (Bool) from
(d_ops_Check n (⟨y0_1, y0_2, y0_3, y0_4, y0_5, y0_6, y0_7, y0_8, y0_10⟩ : GOp)).bind fun x196 =>
bnd (!x196) fun x197 =>
cond x197 ((d_ops_Bytes n [(⟨y0_1, y0_2, y0_3, y0_4, y0_5, y0_6, y0_7, y0_8, y0_10⟩ : GOp)]).bind fun x198 =>
bnd (decide (x198 = ([] : List UInt8))) fun x199 =>
cond x199 ((d_law05_awake n).bind fun x200 =>
some (x200 : Bool)) (some (false : Bool))) (some (false : Bool))).bind <| fun y1_1 =>
some ((y1_1 : Bool))) q6) q5) q4) q3) q2) q1) q0) (bnd (decide (x5 = 13)) fun x22 =>
cond x22 ((d_ops_Check n (⟨13, 0, 0, 0, 0, 1, 0, 0, []⟩ : GOp)).bind fun x132 =>
bnd (!x132) fun x133 =>
asrt (x133 = false) <|
(d_law00_Place a2 10).bind fun x134 =>
(show Option (Int × Int × Int × Int × Int × Int × Int × Int × (List Int)) from
bnd (decide (x134 = 0)) fun x137 =>
cond x137 (bnd (w64 (16 + x7)) fun x159 =>
some ((x159 : Int), (0 : Int), (0 : Int), (0 : Int), (0 : Int), (1 : Int), (0 : Int), (0 : Int), (([] : List Int) : List Int))) (bnd (decide (x134 = 1)) fun x138 =>
cond x138 (bnd (w64 (0 - x7)) fun x158 =>
some ((x158 : Int), (0 : Int), (0 : Int), (0 : Int), (0 : Int), (1 : Int), (0 : Int), (0 : Int), (([] : List Int) : List Int))) (bnd (decide (x134 = 2)) fun x139 =>
cond x139 (bnd (w64 (3 + x7)) fun x157 =>
some ((13 : Int), (x157 : Int), (0 : Int), (0 : Int), (0 : Int), (1 : Int), (0 : Int), (0 : Int), (([] : List Int) : List Int))) (bnd (decide (x134 = 3)) fun x140 =>
cond x140 (bnd (w64 (0 - x7)) fun x156 =>
some ((13 : Int), (0 : Int), (x156 : Int), (0 : Int), (0 : Int), (1 : Int), (0 : Int), (0 : Int), (([] : List Int) : List Int))) (bnd (decide (x134 = 4)) fun x141 =>
cond x141 (bnd (w64 (1 + x7)) fun x155 =>
some ((13 : Int), (0 : Int), (0 : Int), (x155 : Int), (0 : Int), (1 : Int), (0 : Int), (0 : Int), (([] : List Int) : List Int))) (bnd (decide (x134 = 5)) fun x142 =>
cond x142 (bnd (w64 (3 + x7)) fun x154 =>
some ((13 : Int), (0 : Int), (0 : Int), (0 : Int), (x154 : Int), (1 : Int), (0 : Int), (0 : Int), (([] : List Int) : List Int))) (bnd (decide (x134 = 6)) fun x143 =>
cond x143 (bnd (w64 (0 - x7)) fun x153 =>
some ((13 : Int), (0 : Int), (0 : Int), (0 : Int), (0 : Int), (x153 : Int), (0 : Int), (0 : Int), (([] : List Int) : List Int))) (bnd (decide (x134 = 7)) fun x144 =>
cond x144 (bnd (w64 (1125899906842624 + x7)) fun x152 =>
some ((13 : Int), (0 : Int), (0 : Int), (0 : Int), (0 : Int), (1 : Int), (x152 : Int), (0 : Int), (([] : List Int) : List Int))) (bnd (decide (x134 = 8)) fun x145 =>
cond x145 (bnd (w64 (39 + x7)) fun x151 =>
some ((13 : Int), (0 : Int), (0 : Int), (0 : Int), (0 : Int), (1 : Int), (0 : Int), (x151 : Int), (([] : List Int) : List Int))) (bnd (w64 (0 - x7)) fun x146 =>
bnd (([] : List Int) ++ ([x146] : List Int)) fun x148 =>
asrt (x148.length ≤ 68719476736) <|
some ((13 : Int), (0 : Int), (0 : Int), (0 : Int), (0 : Int), (1 : Int), (0 : Int), (0 : Int), (x148 : List Int)))))))))))).bind <| p2 fun (y0_1 : Int) (q0 : Int × Int × Int × Int × Int × Int × Int × (List Int)) => (p2 fun (y0_2 : Int) (q1 : Int × Int × Int × Int × Int × Int × (List Int)) => (p2 fun (y0_3 : Int) (q2 : Int × Int × Int × Int × Int × (List Int)) => (p2 fun (y0_4 : Int) (q3 : Int × Int × Int × Int × (List Int)) => (p2 fun (y0_5 : Int) (q4 : Int × Int × Int × (List Int)) => (p2 fun (y0_6 : Int) (q5 : Int × Int × (List Int)) => (p2 fun (y0_7 : Int) (q6 : Int × (List Int)) => (p2 fun (y0_8 : Int) (y0_10 : List Int) =>
(show Option (Bool) from
(d_ops_Check n (⟨y0_1, y0_2, y0_3, y0_4, y0_5, y0_6, y0_7, y0_8, y0_10⟩ : GOp)).bind fun x161 =>
bnd (!x161) fun x162 =>
cond x162 ((d_ops_Bytes n [(⟨y0_1, y0_2, y0_3, y0_4, y0_5, y0_6, y0_7, y0_8, y0_10⟩ : GOp)]).bind fun x163 =>
bnd (decide (x163 = ([] : List UInt8))) fun x164 =>
cond x164 ((d_law05_awake n).bind fun x165 =>
some (x165 : Bool)) (some (false : Bool))) (some (false : Bool))).bind <| fun y1_1 =>
some ((y1_1 : Bool))) q6) q5) q4) q3) q2) q1) q0) (bnd (decide (x5 = 14)) fun x23 =>
cond x23 ((d_ops_Check n (⟨14, 0, 0, 0, 0, 0, 0, 0, []⟩ : GOp)).bind fun x97 =>
bnd (!x97) fun x98 =>
asrt (x98 = false) <|
(d_law00_Place a2 10).bind fun x99 =>
(show Option (Int × Int × Int × Int × Int × Int × Int × Int × (List Int)) from
bnd (decide (x99 = 0)) fun x102 =>
cond x102 (bnd (w64 (16 + x7)) fun x124 =>
some ((x124 : Int), (0 : Int), (0 : Int), (0 : Int), (0 : Int), (0 : Int), (0 : Int), (0 : Int), (([] : List Int) : List Int))) (bnd (decide (x99 = 1)) fun x103 =>
cond x103 (bnd (w64 (0 - x7)) fun x123 =>
some ((x123 : Int), (0 : Int), (0 : Int), (0 : Int), (0 : Int), (0 : Int), (0 : Int), (0 : Int), (([] : List Int) : List Int))) (bnd (decide (x99 = 2)) fun x104 =>
cond x104 (bnd (w64 (3 + x7)) fun x122 =>
some ((14 : Int), (x122 : Int), (0 : Int), (0 : Int), (0 : Int), (0 : Int), (0 : Int), (0 : Int), (([] : List Int) : List Int))) (bnd (decide (x99 = 3)) fun x105 =>
cond x105 (bnd (w64 (0 - x7)) fun x121 =>
some ((14 : Int), (0 : Int), (x121 : Int), (0 : Int), (0 : Int), (0 : Int), (0 : Int), (0 : Int), (([] : List Int) : List Int))) (bnd (decide (x99 = 4)) fun x106 =>
cond x106 (bnd (w64 (1 + x7)) fun x120 =>
some ((14 : Int), (0 : Int), (0 : Int), (x120 : Int), (0 : Int), (0 : Int), (0 : Int), (0 : Int), (([] : List Int) : List Int))) (bnd (decide (x99 = 5)) fun x107 =>
cond x107 (bnd (w64 (3 + x7)) fun x119 =>
some ((14 : Int), (0 : Int), (0 : Int), (0 : Int), (x119 : Int), (0 : Int), (0 : Int), (0 : Int), (([] : List Int) : List Int))) (bnd (decide (x99 = 6)) fun x108 =>
cond x108 (bnd (w64 (0 - x7)) fun x118 =>
some ((14 : Int), (0 : Int), (0 : Int), (0 : Int), (0 : Int), (x118 : Int), (0 : Int), (0 : Int), (([] : List Int) : List Int))) (bnd (decide (x99 = 7)) fun x109 =>
cond x109 (bnd (w64 (1125899906842624 + x7)) fun x117 =>
some ((14 : Int), (0 : Int), (0 : Int), (0 : Int), (0 : Int), (0 : Int), (x117 : Int), (0 : Int), (([] : List Int) : List Int))) (bnd (decide (x99 = 8)) fun x110 =>
cond x110 (bnd (w64 (39 + x7)) fun x116 =>
some ((14 : Int), (0 : Int), (0 : Int), (0 : Int), (0 : Int), (0 : Int), (0 : Int), (x116 : Int), (([] : List Int) : List Int))) (bnd (w64 (0 - x7)) fun x111 =>
bnd (([] : List Int) ++ ([x111] : List Int)) fun x113 =>
asrt (x113.length ≤ 68719476736) <|
some ((14 : Int), (0 : Int), (0 : Int), (0 : Int), (0 : Int), (0 : Int), (0 : Int), (0 : Int), (x113 : List Int)))))))))))).bind <| p2 fun (y0_1 : Int) (q0 : Int × Int × Int × Int × Int × Int × Int × (List Int)) => (p2 fun (y0_2 : Int) (q1 : Int × Int × Int × Int × Int × Int × (List Int)) => (p2 fun (y0_3 : Int) (q2 : Int × Int × Int × Int × Int × (List Int)) => (p2 fun (y0_4 : Int) (q3 : Int × Int × Int × Int × (List Int)) => (p2 fun (y0_5 : Int) (q4 : Int × Int × Int × (List Int)) => (p2 fun (y0_6 : Int) (q5 : Int × Int × (List Int)) => (p2 fun (y0_7 : Int) (q6 : Int × (List Int)) => (p2 fun (y0_8 : Int) (y0_10 : List Int) =>
(show Option (Bool) from
(d_ops_Check n (⟨y0_1, y0_2, y0_3, y0_4, y0_5, y0_6, y0_7, y0_8, y0_10⟩ : GOp)).bind fun x126 =>
bnd (!x126) fun x127 =>
cond x127 ((d_ops_Bytes n [(⟨y0_1, y0_2, y0_3, y0_4, y0_5, y0_6, y0_7, y0_8, y0_10⟩ : GOp)]).bind fun x128 =>
bnd (decide (x128 = ([] : List UInt8))) fun x129 =>
cond x129 ((d_law05_awake n).bind fun x130 =>
some (x130 : Bool)) (some (false : Bool))) (some (false : Bool))).bind <| fun y1_1 =>
some ((y1_1 : Bool))) q6) q5) q4) q3) q2) q1) q0) (bnd (decide (x5 = 15)) fun x24 =>
cond x24 ((d_ops_Check n (⟨15, 0, 0, 0, 0, 0, 0, 0, []⟩ : GOp)).bind fun x62 =>
bnd (!x62) fun x63 =>
asrt (x63 = false) <|
(d_law00_Place a2 10).bind fun x64 =>
(show Option (Int × Int × Int × Int × Int × Int × Int × Int × (List Int)) from
bnd (decide (x64 = 0)) fun x67 =>
cond x67 (bnd (w64 (16 + x7)) fun x89 =>
some ((x89 : Int), (0 : Int), (0 : Int), (0 : Int), (0 : Int), (0 : Int), (0 : Int), (0 : Int), (([] : List Int) : List Int))) (bnd (decide (x64 = 1)) fun x68 =>
cond x68 (bnd (w64 (0 - x7)) fun x88 =>
some ((x88 : Int), (0 : Int), (0 : Int), (0 : Int), (0 : Int), (0 : Int), (0 : Int), (0 : Int), (([] : List Int) : List Int))) (bnd (decide (x64 = 2)) fun x69 =>
cond x69 (bnd (w64 (3 + x7)) fun x87 =>
some ((15 : Int), (x87 : Int), (0 : Int), (0 : Int), (0 : Int), (0 : Int), (0 : Int), (0 : Int), (([] : List Int) : List Int))) (bnd (decide (x64 = 3)) fun x70 =>
cond x70 (bnd (w64 (0 - x7)) fun x86 =>
some ((15 : Int), (0 : Int), (x86 : Int), (0 : Int), (0 : Int), (0 : Int), (0 : Int), (0 : Int), (([] : List Int) : List Int))) (bnd (decide (x64 = 4)) fun x71 =>
cond x71 (bnd (w64 (1 + x7)) fun x85 =>
some ((15 : Int), (0 : Int), (0 : Int), (x85 : Int), (0 : Int), (0 : Int), (0 : Int), (0 : Int), (([] : List Int) : List Int))) (bnd (decide (x64 = 5)) fun x72 =>
cond x72 (bnd (w64 (3 + x7)) fun x84 =>
some ((15 : Int), (0 : Int), (0 : Int), (0 : Int), (x84 : Int), (0 : Int), (0 : Int), (0 : Int), (([] : List Int) : List Int))) (bnd (decide (x64 = 6)) fun x73 =>
cond x73 (bnd (w64 (0 - x7)) fun x83 =>
some ((15 : Int), (0 : Int), (0 : Int), (0 : Int), (0 : Int), (x83 : Int), (0 : Int), (0 : Int), (([] : List Int) : List Int))) (bnd (decide (x64 = 7)) fun x74 =>
cond x74 (bnd (w64 (1125899906842624 + x7)) fun x82 =>
some ((15 : Int), (0 : Int), (0 : Int), (0 : Int), (0 : Int), (0 : Int), (x82 : Int), (0 : Int), (([] : List Int) : List Int))) (bnd (decide (x64 = 8)) fun x75 =>
cond x75 (bnd (w64 (39 + x7)) fun x81 =>
some ((15 : Int), (0 : Int), (0 : Int), (0 : Int), (0 : Int), (0 : Int), (0 : Int), (x81 : Int), (([] : List Int) : List Int))) (bnd (w64 (0 - x7)) fun x76 =>
bnd (([] : List Int) ++ ([x76] : List Int)) fun x78 =>
asrt (x78.length ≤ 68719476736) <|
some ((15 : Int), (0 : Int), (0 : Int), (0 : Int), (0 : Int), (0 : Int), (0 : Int), (0 : Int), (x78 : List Int)))))))))))).bind <| p2 fun (y0_1 : Int) (q0 : Int × Int × Int × Int × Int × Int × Int × (List Int)) => (p2 fun (y0_2 : Int) (q1 : Int × Int × Int × Int × Int × Int × (List Int)) => (p2 fun (y0_3 : Int) (q2 : Int × Int × Int × Int × Int × (List Int)) => (p2 fun (y0_4 : Int) (q3 : Int × Int × Int × Int × (List Int)) => (p2 fun (y0_5 : Int) (q4 : Int × Int × Int × (List Int)) => (p2 fun (y0_6 : Int) (q5 : Int × Int × (List Int)) => (p2 fun (y0_7 : Int) (q6 : Int × (List Int)) => (p2 fun (y0_8 : Int) (y0_10 : List Int) =>
(show Option (Bool) from
(d_ops_Check n (⟨y0_1, y0_2, y0_3, y0_4, y0_5, y0_6, y0_7, y0_8, y0_10⟩ : GOp)).bind fun x91 =>
bnd (!x91) fun x92 =>
cond x92 ((d_ops_Bytes n [(⟨y0_1, y0_2, y0_3, y0_4, y0_5, y0_6, y0_7, y0_8, y0_10⟩ : GOp)]).bind fun x93 =>
bnd (decide (x93 = ([] : List UInt8))) fun x94 =>
cond x94 ((d_law05_awake n).bind fun x95 =>
some (x95 : Bool)) (some (false : Bool))) (some (false : Bool))).bind <| fun y1_1 =>
some ((y1_1 : Bool))) q6) q5) q4) q3) q2) q1) q0) (asrt (x5 = 16) <|
(d_ops_Check n (⟨16, 0, 0, 0, 0, 0, 0, 0, []⟩ : GOp)).bind fun x27 =>
bnd (!x27) fun x28 =>
asrt (x28 = false) <|
(d_law00_Place a2 10).bind fun x29 =>
(show Option (Int × Int × Int × Int × Int × Int × Int × Int × (List Int)) from
bnd (decide (x29 = 0)) fun x32 =>
cond x32 (bnd (w64 (16 + x7)) fun x54 =>
some ((x54 : Int), (0 : Int), (0 : Int), (0 : Int), (0 : Int), (0 : Int), (0 : Int), (0 : Int), (([] : List Int) : List Int))) (bnd (decide (x29 = 1)) fun x33 =>
cond x33 (bnd (w64 (0 - x7)) fun x53 =>
some ((x53 : Int), (0 : Int), (0 : Int), (0 : Int), (0 : Int), (0 : Int), (0 : Int), (0 : Int), (([] : List Int) : List Int))) (bnd (decide (x29 = 2)) fun x34 =>
cond x34 (bnd (w64 (3 + x7)) fun x52 =>
some ((16 : Int), (x52 : Int), (0 : Int), (0 : Int), (0 : Int), (0 : Int), (0 : Int), (0 : Int), (([] : List Int) : List Int))) (bnd (decide (x29 = 3)) fun x35 =>
cond x35 (bnd (w64 (0 - x7)) fun x51 =>
some ((16 : Int), (0 : Int), (x51 : Int), (0 : Int), (0 : Int), (0 : Int), (0 : Int), (0 : Int), (([] : List Int) : List Int))) (bnd (decide (x29 = 4)) fun x36 =>
cond x36 (bnd (w64 (1 + x7)) fun x50 =>
some ((16 : Int), (0 : Int), (0 : Int), (x50 : Int), (0 : Int), (0 : Int), (0 : Int), (0 : Int), (([] : List Int) : List Int))) (bnd (decide (x29 = 5)) fun x37 =>
cond x37 (bnd (w64 (3 + x7)) fun x49 =>
some ((16 : Int), (0 : Int), (0 : Int), (0 : Int), (x49 : Int), (0 : Int), (0 : Int), (0 : Int), (([] : List Int) : List Int))) (bnd (decide (x29 = 6)) fun x38 =>
cond x38 (bnd (w64 (0 - x7)) fun x48 =>
some ((16 : Int), (0 : Int), (0 : Int), (0 : Int), (0 : Int), (x48 : Int), (0 : Int), (0 : Int), (([] : List Int) : List Int))) (bnd (decide (x29 = 7)) fun x39 =>
cond x39 (bnd (w64 (1125899906842624 + x7)) fun x47 =>
some ((16 : Int), (0 : Int), (0 : Int), (0 : Int), (0 : Int), (0 : Int), (x47 : Int), (0 : Int), (([] : List Int) : List Int))) (bnd (decide (x29 = 8)) fun x40 =>
cond x40 (bnd (w64 (39 + x7)) fun x46 =>
some ((16 : Int), (0 : Int), (0 : Int), (0 : Int), (0 : Int), (0 : Int), (0 : Int), (x46 : Int), (([] : List Int) : List Int))) (bnd (w64 (0 - x7)) fun x41 =>
bnd (([] : List Int) ++ ([x41] : List Int)) fun x43 =>
asrt (x43.length ≤ 68719476736) <|
some ((16 : Int), (0 : Int), (0 : Int), (0 : Int), (0 : Int), (0 : Int), (0 : Int), (0 : Int), (x43 : List Int)))))))))))).bind <| p2 fun (y0_1 : Int) (q0 : Int × Int × Int × Int × Int × Int × Int × (List Int)) => (p2 fun (y0_2 : Int) (q1 : Int × Int × Int × Int × Int × Int × (List Int)) => (p2 fun (y0_3 : Int) (q2 : Int × Int × Int × Int × Int × (List Int)) => (p2 fun (y0_4 : Int) (q3 : Int × Int × Int × Int × (List Int)) => (p2 fun (y0_5 : Int) (q4 : Int × Int × Int × (List Int)) => (p2 fun (y0_6 : Int) (q5 : Int × Int × (List Int)) => (p2 fun (y0_7 : Int) (q6 : Int × (List Int)) => (p2 fun (y0_8 : Int) (y0_10 : List Int) =>
(show Option (Bool) from
(d_ops_Check n (⟨y0_1, y0_2, y0_3, y0_4, y0_5, y0_6, y0_7, y0_8, y0_10⟩ : GOp)).bind fun x56 =>
bnd (!x56) fun x57 =>
cond x57 ((d_ops_Bytes n [(⟨y0_1, y0_2, y0_3, y0_4, y0_5, y0_6, y0_7, y0_8, y0_10⟩ : GOp)]).bind fun x58 =>
bnd (decide (x58 = ([] : List UInt8))) fun x59 =>
cond x59 ((d_law05_awake n).bind fun x60 =>
some (x60 : Bool)) (some (false : Bool))) (some (false : Bool))).bind <| fun y1_1 =>
some ((y1_1 : Bool))) q6) q5) q4) q3) q2) q1) q0))))))))))))))))
theorem d_law05_OpsWrong_c {n : Nat} {a1 : Int} {a2 : Int} {a3 : Int} {r : Bool} (h0 : d_law05_OpsWrong n a1 a2 a3 = some r) : PP Try.prog 5 [int a1, int a2, int a3] (fun y => y = boo r) := by
  unfold d_law05_OpsWrong at h0
  refine pp_of_pc (R0 := fun y H => Cv (frzH H) y (boo r)) ?_ (fun y H hc => ⟨_, rfl, pvB r, hc⟩)
  refine pcw (c := _) Try.func5 rfl rfl ?_; intro Q hret hnorm
  refine tc tbk 7 (.mk ?_)
  obtain ⟨x4, e4, h0⟩ := bind_e h0
  refine sC cal19 (d_law00_Place_c e4) ?_
  refine ni tbk h0 fun x5 h0 => ?_
  refine tr tbk 5 (.mk ?_)
  obtain ⟨x6, e6, h0⟩ := bind_e h0
  refine sC cal19 (d_law00_Place_c e6) ?_
  refine ni tbk h0 fun x7 h0 => ?_
  refine tr tbk 4 (.mk ?_)
  refine sY (yv_build (cs := [int 0, int 0, int 0, int 0, int 0, int 0, int 0, int 0, .sc (.slice none 0 0)]) (ps := []) rfl pl28 z28 rfl .nil (by kernel_rfl)) ?_
  refine sY (yv_build (cs := [int 1, int 0, int 0, int 0, int 0, int 1, int 0, int 0, .sc (.slice none 0 0)]) (ps := [(0, _), (5, _)]) rfl pl28 z28 rfl (.cons rfl (.cons rfl .nil)) (by kernel_rfl)) ?_
  refine sY (yv_build (cs := [int 2, int 0, int 0, int 0, int 0, int 1, int 0, int 0, .sc (.slice none 0 0)]) (ps := [(0, _), (5, _)]) rfl pl28 z28 rfl (.cons rfl (.cons rfl .nil)) (by kernel_rfl)) ?_
  refine sY (yv_build (cs := [int 3, int 0, int 0, int 0, int 0, int 1, int 0, int 0, .sc (.slice none 0 0)]) (ps := [(0, _), (5, _)]) rfl pl28 z28 rfl (.cons rfl (.cons rfl .nil)) (by kernel_rfl)) ?_
  refine sY (yv_build (cs := [int 4, int 0, int 0, int 0, int 0, int 1, int 0, int 0, .sc (.slice none 0 0)]) (ps := [(0, _), (5, _)]) rfl pl28 z28 rfl (.cons rfl (.cons rfl .nil)) (by kernel_rfl)) ?_
  refine sY (yv_build (cs := [int 5, int 0, int 0, int 0, int 0, int 1, int 0, int 0, .sc (.slice none 0 0)]) (ps := [(0, _), (5, _)]) rfl pl28 z28 rfl (.cons rfl (.cons rfl .nil)) (by kernel_rfl)) ?_
  refine sY (yv_build (cs := [int 6, int 0, int 0, int 0, int 0, int 1, int 0, int 0, .sc (.slice none 0 0)]) (ps := [(0, _), (5, _)]) rfl pl28 z28 rfl (.cons rfl (.cons rfl .nil)) (by kernel_rfl)) ?_
  refine sY (yv_build (cs := [int 7, int 0, int 0, int 0, int 0, int 0, int 0, int 0, .sc (.slice none 0 0)]) (ps := [(0, _)]) rfl pl28 z28 rfl (.cons rfl .nil) (by kernel_rfl)) ?_
  refine sY (yv_build (cs := [int 8, int 0, int 0, int 0, int 1, int 1, int 0, int 0, .sc (.slice none 0 0)]) (ps := [(0, _), (4, _), (5, _)]) rfl pl28 z28 rfl (.cons rfl (.cons rfl (.cons rfl .nil))) (by kernel_rfl)) ?_
  refine sY (yv_build (cs := [int 9, int 0, int 0, int 0, int 0, int 0, int 0, int 0, .sc (.slice none 0 0)]) (ps := [(0, _)]) rfl pl28 z28 rfl (.cons rfl .nil) (by kernel_rfl)) ?_
  refine sY (yv_build (cs := [int 10, int 0, int 0, int 0, int 0, int 0, int 0, int 0, .sc (.slice none 0 0)]) (ps := [(0, _)]) rfl pl28 z28 rfl (.cons rfl .nil) (by kernel_rfl)) ?_
  refine rse rfl rfl rfl (yl_buildO (ps := [(0, _)]) 1 [[int 0]] .any rfl Try.underlying26 bz3 (.cons rfl .nil) (by kernel_rfl) rfl rfl rfl) ?_; rintro _ _ ⟨v8, -, rfl, rfl⟩
  refine sY (yv_build (cs := [int 11, int 0, int 0, int 0, int 0, int 0, int 0, int 0, .sl 1 v8 0 1]) (ps := [(0, _), (8, _)]) rfl pl28 z28 rfl (.cons rfl (.cons rfl .nil)) (by kernel_rfl)) ?_
  refine sY (yv_build (cs := [int 12, int 0, int 0, int 0, int 1, int 1, int 0, int 0, .sc (.slice none 0 0)]) (ps := [(0, _), (4, _), (5, _)]) rfl pl28 z28 rfl (.cons rfl (.cons rfl (.cons rfl .nil))) (by kernel_rfl)) ?_
  refine sY (yv_build (cs := [int 13, int 0, int 0, int 0, int 0, int 1, int 0, int 0, .sc (.slice none 0 0)]) (ps := [(0, _), (5, _)]) rfl pl28 z28 rfl (.cons rfl (.cons rfl .nil)) (by kernel_rfl)) ?_
  refine sY (yv_build (cs := [int 14, int 0, int 0, int 0, int 0, int 0, int 0, int 0, .sc (.slice none 0 0)]) (ps := [(0, _)]) rfl pl28 z28 rfl (.cons rfl .nil) (by kernel_rfl)) ?_
  refine sY (yv_build (cs := [int 15, int 0, int 0, int 0, int 0, int 0, int 0, int 0, .sc (.slice none 0 0)]) (ps := [(0, _)]) rfl pl28 z28 rfl (.cons rfl .nil) (by kernel_rfl)) ?_
  refine sY (yv_build (cs := [int 16, int 0, int 0, int 0, int 0, int 0, int 0, int 0, .sc (.slice none 0 0)]) (ps := [(0, _)]) rfl pl28 z28 rfl (.cons rfl .nil) (by kernel_rfl)) ?_
  refine sY (yv_buildA (cs := [int 0, int 0, int 0, int 0, int 0, int 0, int 0, int 0, .sc (.slice none 0 0), int 1, int 0, int 0, int 0, int 0, int 1, int 0, int 0, .sc (.slice none 0 0), int 2, int 0, int 0, int 0, int 0, int 1, int 0, int 0, .sc (.slice none 0 0), int 3, int 0, int 0, int 0, int 0, int 1, int 0, int 0, .sc (.slice none 0 0), int 4, int 0, int 0, int 0, int 0, int 1, int 0, int 0, .sc (.slice none 0 0), int 5, int 0, int 0, int 0, int 0, int 1, int 0, int 0, .sc (.slice none 0 0), int 6, int 0, int 0, int 0, int 0, int 1, int 0, int 0, .sc (.slice none 0 0), int 7, int 0, int 0, int 0, int 0, int 0, int 0, int 0, .sc (.slice none 0 0), int 8, int 0, int 0, int 0, int 1, int 1, int 0, int 0, .sc (.slice none 0 0), int 9, int 0, int 0, int 0, int 0, int 0, int 0, int 0, .sc (.slice none 0 0), int 10, int 0, int 0, int 0, int 0, int 0, int 0, int 0, .sc (.slice none 0 0), int 11, int 0, int 0, int 0, int 0, int 0, int 0, int 0, .sl 1 v8 0 1, int 12, int 0, int 0, int 0, int 1, int 1, int 0, int 0, .sc (.slice none 0 0), int 13, int 0, int 0, int 0, int 0, int 1, int 0, int 0, .sc (.slice none 0 0), int 14, int 0, int 0, int 0, int 0, int 0, int 0, int 0, .sc (.slice none 0 0), int 15, int 0, int 0, int 0, int 0, int 0, int 0, int 0, .sc (.slice none 0 0), int 16, int 0, int 0, int 0, int 0, int 0, int 0, int 0, .sc (.slice none 0 0)]) (ps := [(0, _), (1, _), (2, _), (3, _), (4, _), (5, _), (6, _), (7, _), (8, _), (9, _), (10, _), (11, _), (12, _), (13, _), (14, _), (15, _), (16, _)]) rfl Try.underlying43 sh28 z43 rfl (.cons rfl (.cons rfl (.cons rfl (.cons rfl (.cons rfl (.cons rfl (.cons rfl (.cons rfl (.cons rfl (.cons rfl (.cons rfl (.cons rfl (.cons rfl (.cons rfl (.cons rfl (.cons rfl (.cons rfl .nil))))))))))))))))) (by kernel_rfl)) ?_
  refine tr tbk 1 (.mk ?_)
  obtain ⟨x9, e9, h0⟩ := bnd_e h0
  cases x9
  replace h0 := cf h0
  obtain ⟨x10, e10, h0⟩ := bnd_e h0
  cases x10
  replace h0 := cf h0
  obtain ⟨x11, e11, h0⟩ := bnd_e h0
  cases x11
  replace h0 := cf h0
  obtain ⟨x12, e12, h0⟩ := bnd_e h0
  cases x12
  replace h0 := cf h0
  obtain ⟨x13, e13, h0⟩ := bnd_e h0
  cases x13
  replace h0 := cf h0
  obtain ⟨x14, e14, h0⟩ := bnd_e h0
  cases x14
  replace h0 := cf h0
  obtain ⟨x15, e15, h0⟩ := bnd_e h0
  cases x15
  replace h0 := cf h0
  obtain ⟨x16, e16, h0⟩ := bnd_e h0
  cases x16
  replace h0 := cf h0
  obtain ⟨x17, e17, h0⟩ := bnd_e h0
  cases x17
  replace h0 := cf h0
  obtain ⟨x18, e18, h0⟩ := bnd_e h0
  cases x18
  replace h0 := cf h0
  obtain ⟨x19, e19, h0⟩ := bnd_e h0
  cases x19
  replace h0 := cf h0
  obtain ⟨x20, e20, h0⟩ := bnd_e h0
  cases x20
  replace h0 := cf h0
  obtain ⟨x21, e21, h0⟩ := bnd_e h0
  cases x21
  replace h0 := cf h0
  obtain ⟨x22, e22, h0⟩ := bnd_e h0
  cases x22
  replace h0 := cf h0
  obtain ⟨x23, e23, h0⟩ := bnd_e h0
  cases x23
  replace h0 := cf h0
  obtain ⟨x24, e24, h0⟩ := bnd_e h0
  cases x24
  replace h0 := cf h0
  obtain ⟨p25, h0⟩ := asrt_e h0
  refine rsas 35 (int 16) rfl (congrArg int p25) ?_
  refine sY (yv_indexA rfl Try.underlying43 sh28 rfl rfl (by decide) rfl) ?_
  refine sA 2 z28 fun v26 => ?_
  refine sS ⟨28, 9, true, true, v26, [[int 16, int 0, int 0, int 0, int 0, int 0, int 0, int 0, .sc (.slice none 0 0)]]⟩ sh28 ?_
  refine tr tbk 5 (.mk ?_)
  obtain ⟨x27, e27, h0⟩ := bind_e h0
  refine sY (yv_callP rfl rfl (.cons rfl .nil) cal8 (.cons (CvL.agg (.cons (.refl _) (.cons (.refl _) (.cons (.refl _) (.cons (.refl _) (.cons (.refl _) (.cons (.refl _) (.cons (.refl _) (.cons (.refl _) (.cons (.nil _) .nil)))))))))) .nil) (d_ops_Check_c e27)) ?_
  refine nb tbk h0 fun x28 h0 => ?_
  refine tr tbk 1 (.mk ?_)
  replace h0 := asrt_e h0
  obtain ⟨rfl, h0⟩ := h0
  refine tc tbk 6 (.mk ?_)
  obtain ⟨x29, e29, h0⟩ := bind_e h0
  refine sC cal19 (d_law00_Place_c e29) ?_
  refine tr tbk 1 (.mk ?_)
  refine c_nilcell 2 0 8 5 3 1 (rows := fun v30 => [[int 16, int 0, int 0, int 0, int 0, int 0, int 0, int 0, .sl 5 v30 0 0]]) rfl rfl rfl rfl (fun _ => rfl) ?_; intro v30
  refine jn h0 [6, 9] [] (fun (a : Int × Int × Int × Int × Int × Int × Int × Int × (List Int)) (k : Nat) => []) (fun a k => [(2, ⟨28, 9, true, true, v26, [[int a.1, int a.2.1, int a.2.2.1, int a.2.2.2.1, int a.2.2.2.2.1, int a.2.2.2.2.2.1, int a.2.2.2.2.2.2.1, int a.2.2.2.2.2.2.2.1, .sl 5 k 0 a.2.2.2.2.2.2.2.2.length]]⟩), (5, ⟨3, 1, true, true, k, a.2.2.2.2.2.2.2.2.map fI⟩)]) ⟨fun j31 h1 => ?_, ?_⟩
  refine tc tbk 3 (.mk ?_)
  refine nb tbk h1 fun x32 h1 => ?_
  refine tr tbk 2 (.mk ?_)
  cases x32
  replace h1 := cf h1
  refine tc tbk 3 (.mk ?_)
  refine nb tbk h1 fun x33 h1 => ?_
  refine tr tbk 2 (.mk ?_)
  cases x33
  replace h1 := cf h1
  refine tc tbk 3 (.mk ?_)
  refine nb tbk h1 fun x34 h1 => ?_
  refine tr tbk 2 (.mk ?_)
  cases x34
  replace h1 := cf h1
  refine tc tbk 3 (.mk ?_)
  refine nb tbk h1 fun x35 h1 => ?_
  refine tr tbk 2 (.mk ?_)
  cases x35
  replace h1 := cf h1
  refine tc tbk 3 (.mk ?_)
  refine nb tbk h1 fun x36 h1 => ?_
  refine tr tbk 2 (.mk ?_)
  cases x36
  replace h1 := cf h1
  refine tc tbk 3 (.mk ?_)
  refine nb tbk h1 fun x37 h1 => ?_
  refine tr tbk 2 (.mk ?_)
  cases x37
  replace h1 := cf h1
  refine tc tbk 3 (.mk ?_)
  refine nb tbk h1 fun x38 h1 => ?_
  refine tr tbk 2 (.mk ?_)
  cases x38
  replace h1 := cf h1
  refine tc tbk 3 (.mk ?_)
  refine nb tbk h1 fun x39 h1 => ?_
  refine tr tbk 2 (.mk ?_)
  cases x39
  replace h1 := cf h1
  refine tc tbk 3 (.mk ?_)
  refine nb tbk h1 fun x40 h1 => ?_
  refine tr tbk 2 (.mk ?_)
  cases x40
  replace h1 := cf h1
  refine tc tbk 5 (.mk ?_)
  refine ni tbk h1 fun x41 h1 => ?_
  refine rse rfl rfl rfl (yl_buildO (ps := [(0, _)]) 3 [[int x41]] .any rfl Try.underlying26 bz3 (.cons rfl .nil) (by kernel_rfl) rfl rfl rfl) ?_; rintro _ _ ⟨v42, -, rfl, rfl⟩
  obtain ⟨x43, e43, h1⟩ := bnd_e h1
  obtain ⟨p44, h1⟩ := asrt_e h1
  refine rse rfl rfl rfl (Yield.frz 3 rfl (yl_appT (g := fI) (l := ([] : List Int)) (m := ([x41] : List Int)) .any rfl Try.underlying26 bz3 by3 rfl rfl rfl rfl rfl rfl rfl rfl rfl rfl (Eq.symm rfl) (cv_lst rfl rfl rfl rfl rfl (Eq.symm rfl)) (fun _ => rfl) e43 p44)) ?_; rintro _ _ ⟨v45, -, rfl, rfl⟩
  refine tr tbk 1 (.mk ?_)
  refine sS ⟨28, 9, true, true, v26, [[int 16, int 0, int 0, int 0, int 0, int 0, int 0, int 0, .sl 5 v45 0 x43.length]]⟩ sh26 ?_
  refine tr tbk 2 (.mk ?_)
  exact lf h1 v45 leA
  replace h1 := ct h1
  refine tc tbk 3 (.mk ?_)
  refine ni tbk h1 fun x46 h1 => ?_
  refine tr tbk 1 (.mk ?_)
  refine sS ⟨28, 9, true, true, v26, [[int 16, int 0, int 0, int 0, int 0, int 0, int 0, int x46, .sl 5 v30 0 0]]⟩ sh3 ?_
  refine tr tbk 2 (.mk ?_)
  exact lf h1 v30 leA
  replace h1 := ct h1
  refine tc tbk 3 (.mk ?_)
  refine ni tbk h1 fun x47 h1 => ?_
  refine tr tbk 1 (.mk ?_)
  refine sS ⟨28, 9, true, true, v26, [[int 16, int 0, int 0, int 0, int 0, int 0, int x47, int 0, .sl 5 v30 0 0]]⟩ sh3 ?_
  refine tr tbk 2 (.mk ?_)
  exact lf h1 v30 leA
  replace h1 := ct h1
  refine tc tbk 3 (.mk ?_)
  refine ni tbk h1 fun x48 h1 => ?_
  refine tr tbk 1 (.mk ?_)
  refine sS ⟨28, 9, true, true, v26, [[int 16, int 0, int 0, int 0, int 0, int x48, int 0, int 0, .sl 5 v30 0 0]]⟩ sh3 ?_
  refine tr tbk 2 (.mk ?_)
  exact lf h1 v30 leA
  replace h1 := ct h1
  refine tc tbk 3 (.mk ?_)
  refine ni tbk h1 fun x49 h1 => ?_
  refine tr tbk 1 (.mk ?_)
  refine sS ⟨28, 9, true, true, v26, [[int 16, int 0, int 0, int 0, int x49, int 0, int 0, int 0, .sl 5 v30 0 0]]⟩ sh3 ?_
  refine tr tbk 2 (.mk ?_)
  exact lf h1 v30 leA
  replace h1 := ct h1
  refine tc tbk 3 (.mk ?_)
  refine ni tbk h1 fun x50 h1 => ?_
  refine tr tbk 1 (.mk ?_)
  refine sS ⟨28, 9, true, true, v26, [[int 16, int 0, int 0, int x50, int 0, int 0, int 0, int 0, .sl 5 v30 0 0]]⟩ sh3 ?_
  refine tr tbk 2 (.mk ?_)
  exact lf h1 v30 leA
  replace h1 := ct h1
  refine tc tbk 3 (.mk ?_)
  refine ni tbk h1 fun x51 h1 => ?_
  refine tr tbk 1 (.mk ?_)
  refine sS ⟨28, 9, true, true, v26, [[int 16, int 0, int x51, int 0, int 0, int 0, int 0, int 0, .sl 5 v30 0 0]]⟩ sh3 ?_
  refine tr tbk 2 (.mk ?_)
  exact lf h1 v30 leA
  replace h1 := ct h1
  refine tc tbk 3 (.mk ?_)
  refine ni tbk h1 fun x52 h1 => ?_
  refine tr tbk 1 (.mk ?_)
  refine sS ⟨28, 9, true, true, v26, [[int 16, int x52, int 0, int 0, int 0, int 0, int 0, int 0, .sl 5 v30 0 0]]⟩ sh3 ?_
  refine tr tbk 2 (.mk ?_)
  exact lf h1 v30 leA
  replace h1 := ct h1
  refine tc tbk 3 (.mk ?_)
  refine ni tbk h1 fun x53 h1 => ?_
  refine tr tbk 1 (.mk ?_)
  refine sS ⟨28, 9, true, true, v26, [[int x53, int 0, int 0, int 0, int 0, int 0, int 0, int 0, .sl 5 v30 0 0]]⟩ sh3 ?_
  refine tr tbk 2 (.mk ?_)
  exact lf h1 v30 leA
  replace h1 := ct h1
  refine tc tbk 3 (.mk ?_)
  refine ni tbk h1 fun x54 h1 => ?_
  refine tr tbk 1 (.mk ?_)
  refine sS ⟨28, 9, true, true, v26, [[int x54, int 0, int 0, int 0, int 0, int 0, int 0, int 0, .sl 5 v30 0 0]]⟩ sh3 ?_
  refine tr tbk 2 (.mk ?_)
  exact lf h1 v30 leA
  rintro ⟨y0_1, y0_2, y0_3, y0_4, y0_5, y0_6, y0_7, y0_8, y0_10⟩ w0_9 h0
  replace h0 := p2_e h0
  replace h0 := p2_e h0
  replace h0 := p2_e h0
  replace h0 := p2_e h0
  replace h0 := p2_e h0
  replace h0 := p2_e h0
  replace h0 := p2_e h0
  replace h0 := p2_e h0
  refine tc tbk 1 (.mk ?_)
  refine jn h0 [] [] (fun (a : Bool) (k : Unit) => [(6, boo a)]) (fun a k => []) ⟨fun j55 h1 => ?_, ?_⟩
  refine tc tbk 2 (.mk ?_)
  obtain ⟨x56, e56, h1⟩ := bind_e h1
  refine sY (yv_callT (v := boo x56) rfl rfl (.cons rfl .nil) cal8 (.cons (CvL.agg (.cons (.refl _) (.cons (.refl _) (.cons (.refl _) (.cons (.refl _) (.cons (.refl _) (.cons (.refl _) (.cons (.refl _) (.cons (.refl _) (.cons (cv_lst rfl rfl rfl rfl rfl (Eq.symm rfl)) .nil)))))))))) .nil) (d_ops_Check_c e56) rfl) ?_
  refine nb tbk h1 fun x57 h1 => ?_
  refine tr tbk 1 (.mk ?_)
  cases x57
  replace h1 := cf h1
  refine tr tbk 10 (.mk ?_)
  exact lf h1 () leA
  replace h1 := ct h1
  refine tr tbk 1 (.mk ?_)
  refine sY (yv_buildSlice (ps := [(0, _)]) (rows := [[int y0_1, int y0_2, int y0_3, int y0_4, int y0_5, int y0_6, int y0_7, int y0_8, .sl 5 w0_9 0 y0_10.length]]) rfl Try.underlying22 bz28 (.cons rfl .nil) (by kernel_rfl) rfl rfl rfl) ?_
  obtain ⟨x58, e58, h1⟩ := bind_e h1
  refine sY (yv_callT (v := str x58) rfl rfl (.cons rfl .nil) cal14 (.cons (CvLL.list (.cons (.cons (.refl _) (.cons (.refl _) (.cons (.refl _) (.cons (.refl _) (.cons (.refl _) (.cons (.refl _) (.cons (.refl _) (.cons (.refl _) (.cons (cv_lst rfl rfl rfl rfl rfl (Eq.symm rfl)) .nil))))))))) .nil)) .nil) (d_ops_Bytes_c e58) rfl) ?_
  obtain ⟨x59, e59, h1⟩ := bnd_e h1
  refine sY (yv_to (y := boo x59) (yv_seql rfl rfl rfl) (congrArg boo e59)) ?_
  refine tr tbk 2 (.mk ?_)
  cases x59
  replace h1 := cf h1
  refine tr tbk 4 (.mk ?_)
  exact lf h1 () leA
  replace h1 := ct h1
  obtain ⟨x60, e60, h1⟩ := bind_e h1
  refine sC cal7 (d_law05_awake_c e60) ?_
  refine tr tbk 3 (.mk ?_)
  exact lf h1 () leA
  rintro y1_1 _ h0
  obtain rfl := nxt_e h0
  refine wR hret (rT .nil) ?_
  exact .refl _
  replace h0 := ct h0
  refine rsas 35 (int 15) rfl (congrArg int (of_decide_eq_true e24)) ?_
  refine sY (yv_indexA rfl Try.underlying43 sh28 rfl rfl (by decide) rfl) ?_
  refine sA 2 z28 fun v61 => ?_
  refine sS ⟨28, 9, true, true, v61, [[int 15, int 0, int 0, int 0, int 0, int 0, int 0, int 0, .sc (.slice none 0 0)]]⟩ sh28 ?_
  refine tr tbk 5 (.mk ?_)
  obtain ⟨x62, e62, h0⟩ := bind_e h0
  refine sY (yv_callP rfl rfl (.cons rfl .nil) cal8 (.cons (CvL.agg (.cons (.refl _) (.cons (.refl _) (.cons (.refl _) (.cons (.refl _) (.cons (.refl _) (.cons (.refl _) (.cons (.refl _) (.cons (.refl _) (.cons (.nil _) .nil)))))))))) .nil) (d_ops_Check_c e62)) ?_
  refine nb tbk h0 fun x63 h0 => ?_
  refine tr tbk 1 (.mk ?_)
  replace h0 := asrt_e h0
  obtain ⟨rfl, h0⟩ := h0
  refine tc tbk 6 (.mk ?_)
  obtain ⟨x64, e64, h0⟩ := bind_e h0
  refine sC cal19 (d_law00_Place_c e64) ?_
  refine tr tbk 1 (.mk ?_)
  refine c_nilcell 2 0 8 5 3 1 (rows := fun v65 => [[int 15, int 0, int 0, int 0, int 0, int 0, int 0, int 0, .sl 5 v65 0 0]]) rfl rfl rfl rfl (fun _ => rfl) ?_; intro v65
  refine jn h0 [6, 9] [] (fun (a : Int × Int × Int × Int × Int × Int × Int × Int × (List Int)) (k : Nat) => []) (fun a k => [(2, ⟨28, 9, true, true, v61, [[int a.1, int a.2.1, int a.2.2.1, int a.2.2.2.1, int a.2.2.2.2.1, int a.2.2.2.2.2.1, int a.2.2.2.2.2.2.1, int a.2.2.2.2.2.2.2.1, .sl 5 k 0 a.2.2.2.2.2.2.2.2.length]]⟩), (5, ⟨3, 1, true, true, k, a.2.2.2.2.2.2.2.2.map fI⟩)]) ⟨fun j66 h1 => ?_, ?_⟩
  refine tc tbk 3 (.mk ?_)
  refine nb tbk h1 fun x67 h1 => ?_
  refine tr tbk 2 (.mk ?_)
  cases x67
  replace h1 := cf h1
  refine tc tbk 3 (.mk ?_)
  refine nb tbk h1 fun x68 h1 => ?_
  refine tr tbk 2 (.mk ?_)
  cases x68
  replace h1 := cf h1
  refine tc tbk 3 (.mk ?_)
  refine nb tbk h1 fun x69 h1 => ?_
  refine tr tbk 2 (.mk ?_)
  cases x69
  replace h1 := cf h1
  refine tc tbk 3 (.mk ?_)
  refine nb tbk h1 fun x70 h1 => ?_
  refine tr tbk 2 (.mk ?_)
  cases x70
  replace h1 := cf h1
  refine tc tbk 3 (.mk ?_)
  refine nb tbk h1 fun x71 h1 => ?_
  refine tr tbk 2 (.mk ?_)
  cases x71
  replace h1 := cf h1
  refine tc tbk 3 (.mk ?_)
  refine nb tbk h1 fun x72 h1 => ?_
  refine tr tbk 2 (.mk ?_)
  cases x72
  replace h1 := cf h1
  refine tc tbk 3 (.mk ?_)
  refine nb tbk h1 fun x73 h1 => ?_
  refine tr tbk 2 (.mk ?_)
  cases x73
  replace h1 := cf h1
  refine tc tbk 3 (.mk ?_)
  refine nb tbk h1 fun x74 h1 => ?_
  refine tr tbk 2 (.mk ?_)
  cases x74
  replace h1 := cf h1
  refine tc tbk 3 (.mk ?_)
  refine nb tbk h1 fun x75 h1 => ?_
  refine tr tbk 2 (.mk ?_)
  cases x75
  replace h1 := cf h1
  refine tc tbk 5 (.mk ?_)
  refine ni tbk h1 fun x76 h1 => ?_
  refine rse rfl rfl rfl (yl_buildO (ps := [(0, _)]) 3 [[int x76]] .any rfl Try.underlying26 bz3 (.cons rfl .nil) (by kernel_rfl) rfl rfl rfl) ?_; rintro _ _ ⟨v77, -, rfl, rfl⟩
  obtain ⟨x78, e78, h1⟩ := bnd_e h1
  obtain ⟨p79, h1⟩ := asrt_e h1
  refine rse rfl rfl rfl (Yield.frz 3 rfl (yl_appT (g := fI) (l := ([] : List Int)) (m := ([x76] : List Int)) .any rfl Try.underlying26 bz3 by3 rfl rfl rfl rfl rfl rfl rfl rfl rfl rfl (Eq.symm rfl) (cv_lst rfl rfl rfl rfl rfl (Eq.symm rfl)) (fun _ => rfl) e78 p79)) ?_; rintro _ _ ⟨v80, -, rfl, rfl⟩
  refine tr tbk 1 (.mk ?_)
  refine sS ⟨28, 9, true, true, v61, [[int 15, int 0, int 0, int 0, int 0, int 0, int 0, int 0, .sl 5 v80 0 x78.length]]⟩ sh26 ?_
  refine tr tbk 2 (.mk ?_)
  exact lf h1 v80 leA
  replace h1 := ct h1
  refine tc tbk 3 (.mk ?_)
  refine ni tbk h1 fun x81 h1 => ?_
  refine tr tbk 1 (.mk ?_)
  refine sS ⟨28, 9, true, true, v61, [[int 15, int 0, int 0, int 0, int 0, int 0, int 0, int x81, .sl 5 v65 0 0]]⟩ sh3 ?_
  refine tr tbk 2 (.mk ?_)
  exact lf h1 v65 leA
  replace h1 := ct h1
  refine tc tbk 3 (.mk ?_)
  refine ni tbk h1 fun x82 h1 => ?_
  refine tr tbk 1 (.mk ?_)
  refine sS ⟨28, 9, true, true, v61, [[int 15, int 0, int 0, int 0, int 0, int 0, int x82, int 0, .sl 5 v65 0 0]]⟩ sh3 ?_
  refine tr tbk 2 (.mk ?_)
  exact lf h1 v65 leA
  replace h1 := ct h1
  refine tc tbk 3 (.mk ?_)
  refine ni tbk h1 fun x83 h1 => ?_
  refine tr tbk 1 (.mk ?_)
  refine sS ⟨28, 9, true, true, v61, [[int 15, int 0, int 0, int 0, int 0, int x83, int 0, int 0, .sl 5 v65 0 0]]⟩ sh3 ?_
  refine tr tbk 2 (.mk ?_)
  exact lf h1 v65 leA
  replace h1 := ct h1
  refine tc tbk 3 (.mk ?_)
  refine ni tbk h1 fun x84 h1 => ?_
  refine tr tbk 1 (.mk ?_)
  refine sS ⟨28, 9, true, true, v61, [[int 15, int 0, int 0, int 0, int x84, int 0, int 0, int 0, .sl 5 v65 0 0]]⟩ sh3 ?_
  refine tr tbk 2 (.mk ?_)
  exact lf h1 v65 leA
  replace h1 := ct h1
  refine tc tbk 3 (.mk ?_)
  refine ni tbk h1 fun x85 h1 => ?_
  refine tr tbk 1 (.mk ?_)
  refine sS ⟨28, 9, true, true, v61, [[int 15, int 0, int 0, int x85, int 0, int 0, int 0, int 0, .sl 5 v65 0 0]]⟩ sh3 ?_
  refine tr tbk 2 (.mk ?_)
  exact lf h1 v65 leA
  replace h1 := ct h1
  refine tc tbk 3 (.mk ?_)
  refine ni tbk h1 fun x86 h1 => ?_
  refine tr tbk 1 (.mk ?_)
  refine sS ⟨28, 9, true, true, v61, [[int 15, int 0, int x86, int 0, int 0, int 0, int 0, int 0, .sl 5 v65 0 0]]⟩ sh3 ?_
  refine tr tbk 2 (.mk ?_)
  exact lf h1 v65 leA
  replace h1 := ct h1
  refine tc tbk 3 (.mk ?_)
  refine ni tbk h1 fun x87 h1 => ?_
  refine tr tbk 1 (.mk ?_)
  refine sS ⟨28, 9, true, true, v61, [[int 15, int x87, int 0, int 0, int 0, int 0, int 0, int 0, .sl 5 v65 0 0]]⟩ sh3 ?_
  refine tr tbk 2 (.mk ?_)
  exact lf h1 v65 leA
  replace h1 := ct h1
  refine tc tbk 3 (.mk ?_)
  refine ni tbk h1 fun x88 h1 => ?_
  refine tr tbk 1 (.mk ?_)
  refine sS ⟨28, 9, true, true, v61, [[int x88, int 0, int 0, int 0, int 0, int 0, int 0, int 0, .sl 5 v65 0 0]]⟩ sh3 ?_
  refine tr tbk 2 (.mk ?_)
  exact lf h1 v65 leA
  replace h1 := ct h1
  refine tc tbk 3 (.mk ?_)
  refine ni tbk h1 fun x89 h1 => ?_
  refine tr tbk 1 (.mk ?_)
  refine sS ⟨28, 9, true, true, v61, [[int x89, int 0, int 0, int 0, int 0, int 0, int 0, int 0, .sl 5 v65 0 0]]⟩ sh3 ?_
  refine tr tbk 2 (.mk ?_)
  exact lf h1 v65 leA
  rintro ⟨y0_1, y0_2, y0_3, y0_4, y0_5, y0_6, y0_7, y0_8, y0_10⟩ w0_9 h0
  replace h0 := p2_e h0
  replace h0 := p2_e h0
  replace h0 := p2_e h0
  replace h0 := p2_e h0
  replace h0 := p2_e h0
  replace h0 := p2_e h0
  replace h0 := p2_e h0
  replace h0 := p2_e h0
  refine tc tbk 1 (.mk ?_)
  refine jn h0 [] [] (fun (a : Bool) (k : Unit) => [(6, boo a)]) (fun a k => []) ⟨fun j90 h1 => ?_, ?_⟩
  refine tc tbk 2 (.mk ?_)
  obtain ⟨x91, e91, h1⟩ := bind_e h1
  refine sY (yv_callT (v := boo x91) rfl rfl (.cons rfl .nil) cal8 (.cons (CvL.agg (.cons (.refl _) (.cons (.refl _) (.cons (.refl _) (.cons (.refl _) (.cons (.refl _) (.cons (.refl _) (.cons (.refl _) (.cons (.refl _) (.cons (cv_lst rfl rfl rfl rfl rfl (Eq.symm rfl)) .nil)))))))))) .nil) (d_ops_Check_c e91) rfl) ?_
  refine nb tbk h1 fun x92 h1 => ?_
  refine tr tbk 1 (.mk ?_)
  cases x92
  replace h1 := cf h1
  refine tr tbk 10 (.mk ?_)
  exact lf h1 () leA
  replace h1 := ct h1
  refine tr tbk 1 (.mk ?_)
  refine sY (yv_buildSlice (ps := [(0, _)]) (rows := [[int y0_1, int y0_2, int y0_3, int y0_4, int y0_5, int y0_6, int y0_7, int y0_8, .sl 5 w0_9 0 y0_10.length]]) rfl Try.underlying22 bz28 (.cons rfl .nil) (by kernel_rfl) rfl rfl rfl) ?_
  obtain ⟨x93, e93, h1⟩ := bind_e h1
  refine sY (yv_callT (v := str x93) rfl rfl (.cons rfl .nil) cal14 (.cons (CvLL.list (.cons (.cons (.refl _) (.cons (.refl _) (.cons (.refl _) (.cons (.refl _) (.cons (.refl _) (.cons (.refl _) (.cons (.refl _) (.cons (.refl _) (.cons (cv_lst rfl rfl rfl rfl rfl (Eq.symm rfl)) .nil))))))))) .nil)) .nil) (d_ops_Bytes_c e93) rfl) ?_
  obtain ⟨x94, e94, h1⟩ := bnd_e h1
  refine sY (yv_to (y := boo x94) (yv_seql rfl rfl rfl) (congrArg boo e94)) ?_
  refine tr tbk 2 (.mk ?_)
  cases x94
  replace h1 := cf h1
  refine tr tbk 4 (.mk ?_)
  exact lf h1 () leA
  replace h1 := ct h1
  obtain ⟨x95, e95, h1⟩ := bind_e h1
  refine sC cal7 (d_law05_awake_c e95) ?_
  refine tr tbk 3 (.mk ?_)
  exact lf h1 () leA
  rintro y1_1 _ h0
  obtain rfl := nxt_e h0
  refine wR hret (rT .nil) ?_
  exact .refl _
  replace h0 := ct h0
  refine rsas 35 (int 14) rfl (congrArg int (of_decide_eq_true e23)) ?_
  refine sY (yv_indexA rfl Try.underlying43 sh28 rfl rfl (by decide) rfl) ?_
  refine sA 2 z28 fun v96 => ?_
  refine sS ⟨28, 9, true, true, v96, [[int 14, int 0, int 0, int 0, int 0, int 0, int 0, int 0, .sc (.slice none 0 0)]]⟩ sh28 ?_
  refine tr tbk 5 (.mk ?_)
  obtain ⟨x97, e97, h0⟩ := bind_e h0
  refine sY (yv_callP rfl rfl (.cons rfl .nil) cal8 (.cons (CvL.agg (.cons (.refl _) (.cons (.refl _) (.cons (.refl _) (.cons (.refl _) (.cons (.refl _) (.cons (.refl _) (.cons (.refl _) (.cons (.refl _) (.cons (.nil _) .nil)))))))))) .nil) (d_ops_Check_c e97)) ?_
  refine nb tbk h0 fun x98 h0 => ?_
  refine tr tbk 1 (.mk ?_)
  replace h0 := asrt_e h0
  obtain ⟨rfl, h0⟩ := h0
  refine tc tbk 6 (.mk ?_)
  obtain ⟨x99, e99, h0⟩ := bind_e h0
  refine sC cal19 (d_law00_Place_c e99) ?_
  refine tr tbk 1 (.mk ?_)
  refine c_nilcell 2 0 8 5 3 1 (rows := fun v100 => [[int 14, int 0, int 0, int 0, int 0, int 0, int 0, int 0, .sl 5 v100 0 0]]) rfl rfl rfl rfl (fun _ => rfl) ?_; intro v100
  refine jn h0 [6, 9] [] (fun (a : Int × Int × Int × Int × Int × Int × Int × Int × (List Int)) (k : Nat) => []) (fun a k => [(2, ⟨28, 9, true, true, v96, [[int a.1, int a.2.1, int a.2.2.1, int a.2.2.2.1, int a.2.2.2.2.1, int a.2.2.2.2.2.1, int a.2.2.2.2.2.2.1, int a.2.2.2.2.2.2.2.1, .sl 5 k 0 a.2.2.2.2.2.2.2.2.length]]⟩), (5, ⟨3, 1, true, true, k, a.2.2.2.2.2.2.2.2.map fI⟩)]) ⟨fun j101 h1 => ?_, ?_⟩
  refine tc tbk 3 (.mk ?_)
  refine nb tbk h1 fun x102 h1 => ?_
  refine tr tbk 2 (.mk ?_)
  cases x102
  replace h1 := cf h1
  refine tc tbk 3 (.mk ?_)
  refine nb tbk h1 fun x103 h1 => ?_
  refine tr tbk 2 (.mk ?_)
  cases x103
  replace h1 := cf h1
  refine tc tbk 3 (.mk ?_)
  refine nb tbk h1 fun x104 h1 => ?_
  refine tr tbk 2 (.mk ?_)
  cases x104
  replace h1 := cf h1
  refine tc tbk 3 (.mk ?_)
  refine nb tbk h1 fun x105 h1 => ?_
  refine tr tbk 2 (.mk ?_)
  cases x105
  replace h1 := cf h1
  refine tc tbk 3 (.mk ?_)
  refine nb tbk h1 fun x106 h1 => ?_
  refine tr tbk 2 (.mk ?_)
  cases x106
  replace h1 := cf h1
  refine tc tbk 3 (.mk ?_)
  refine nb tbk h1 fun x107 h1 => ?_
  refine tr tbk 2 (.mk ?_)
  cases x107
  replace h1 := cf h1
  refine tc tbk 3 (.mk ?_)
  refine nb tbk h1 fun x108 h1 => ?_
  refine tr tbk 2 (.mk ?_)
  cases x108
  replace h1 := cf h1
  refine tc tbk 3 (.mk ?_)
  refine nb tbk h1 fun x109 h1 => ?_
  refine tr tbk 2 (.mk ?_)
  cases x109
  replace h1 := cf h1
  refine tc tbk 3 (.mk ?_)
  refine nb tbk h1 fun x110 h1 => ?_
  refine tr tbk 2 (.mk ?_)
  cases x110
  replace h1 := cf h1
  refine tc tbk 5 (.mk ?_)
  refine ni tbk h1 fun x111 h1 => ?_
  refine rse rfl rfl rfl (yl_buildO (ps := [(0, _)]) 3 [[int x111]] .any rfl Try.underlying26 bz3 (.cons rfl .nil) (by kernel_rfl) rfl rfl rfl) ?_; rintro _ _ ⟨v112, -, rfl, rfl⟩
  obtain ⟨x113, e113, h1⟩ := bnd_e h1
  obtain ⟨p114, h1⟩ := asrt_e h1
  refine rse rfl rfl rfl (Yield.frz 3 rfl (yl_appT (g := fI) (l := ([] : List Int)) (m := ([x111] : List Int)) .any rfl Try.underlying26 bz3 by3 rfl rfl rfl rfl rfl rfl rfl rfl rfl rfl (Eq.symm rfl) (cv_lst rfl rfl rfl rfl rfl (Eq.symm rfl)) (fun _ => rfl) e113 p114)) ?_; rintro _ _ ⟨v115, -, rfl, rfl⟩
  refine tr tbk 1 (.mk ?_)
  refine sS ⟨28, 9, true, true, v96, [[int 14, int 0, int 0, int 0, int 0, int 0, int 0, int 0, .sl 5 v115 0 x113.length]]⟩ sh26 ?_
  refine tr tbk 2 (.mk ?_)
  exact lf h1 v115 leA
  replace h1 := ct h1
  refine tc tbk 3 (.mk ?_)
  refine ni tbk h1 fun x116 h1 => ?_
  refine tr tbk 1 (.mk ?_)
  refine sS ⟨28, 9, true, true, v96, [[int 14, int 0, int 0, int 0, int 0, int 0, int 0, int x116, .sl 5 v100 0 0]]⟩ sh3 ?_
  refine tr tbk 2 (.mk ?_)
  exact lf h1 v100 leA
  replace h1 := ct h1
  refine tc tbk 3 (.mk ?_)
  refine ni tbk h1 fun x117 h1 => ?_
  refine tr tbk 1 (.mk ?_)
  refine sS ⟨28, 9, true, true, v96, [[int 14, int 0, int 0, int 0, int 0, int 0, int x117, int 0, .sl 5 v100 0 0]]⟩ sh3 ?_
  refine tr tbk 2 (.mk ?_)
  exact lf h1 v100 leA
  replace h1 := ct h1
  refine tc tbk 3 (.mk ?_)
  refine ni tbk h1 fun x118 h1 => ?_
  refine tr tbk 1 (.mk ?_)
  refine sS ⟨28, 9, true, true, v96, [[int 14, int 0, int 0, int 0, int 0, int x118, int 0, int 0, .sl 5 v100 0 0]]⟩ sh3 ?_
  refine tr tbk 2 (.mk ?_)
  exact lf h1 v100 leA
  replace h1 := ct h1
  refine tc tbk 3 (.mk ?_)
  refine ni tbk h1 fun x119 h1 => ?_
  refine tr tbk 1 (.mk ?_)
  refine sS ⟨28, 9, true, true, v96, [[int 14, int 0, int 0, int 0, int x119, int 0, int 0, int 0, .sl 5 v100 0 0]]⟩ sh3 ?_
  refine tr tbk 2 (.mk ?_)
  exact lf h1 v100 leA
  replace h1 := ct h1
  refine tc tbk 3 (.mk ?_)
  refine ni tbk h1 fun x120 h1 => ?_
  refine tr tbk 1 (.mk ?_)
  refine sS ⟨28, 9, true, true, v96, [[int 14, int 0, int 0, int x120, int 0, int 0, int 0, int 0, .sl 5 v100 0 0]]⟩ sh3 ?_
  refine tr tbk 2 (.mk ?_)
  exact lf h1 v100 leA
  replace h1 := ct h1
  refine tc tbk 3 (.mk ?_)
  refine ni tbk h1 fun x121 h1 => ?_
  refine tr tbk 1 (.mk ?_)
  refine sS ⟨28, 9, true, true, v96, [[int 14, int 0, int x121, int 0, int 0, int 0, int 0, int 0, .sl 5 v100 0 0]]⟩ sh3 ?_
  refine tr tbk 2 (.mk ?_)
  exact lf h1 v100 leA
  replace h1 := ct h1
  refine tc tbk 3 (.mk ?_)
  refine ni tbk h1 fun x122 h1 => ?_
  refine tr tbk 1 (.mk ?_)
  refine sS ⟨28, 9, true, true, v96, [[int 14, int x122, int 0, int 0, int 0, int 0, int 0, int 0, .sl 5 v100 0 0]]⟩ sh3 ?_
  refine tr tbk 2 (.mk ?_)
  exact lf h1 v100 leA
  replace h1 := ct h1
  refine tc tbk 3 (.mk ?_)
  refine ni tbk h1 fun x123 h1 => ?_
  refine tr tbk 1 (.mk ?_)
  refine sS ⟨28, 9, true, true, v96, [[int x123, int 0, int 0, int 0, int 0, int 0, int 0, int 0, .sl 5 v100 0 0]]⟩ sh3 ?_
  refine tr tbk 2 (.mk ?_)
  exact lf h1 v100 leA
  replace h1 := ct h1
  refine tc tbk 3 (.mk ?_)
  refine ni tbk h1 fun x124 h1 => ?_
  refine tr tbk 1 (.mk ?_)
  refine sS ⟨28, 9, true, true, v96, [[int x124, int 0, int 0, int 0, int 0, int 0, int 0, int 0, .sl 5 v100 0 0]]⟩ sh3 ?_
  refine tr tbk 2 (.mk ?_)
  exact lf h1 v100 leA
  rintro ⟨y0_1, y0_2, y0_3, y0_4, y0_5, y0_6, y0_7, y0_8, y0_10⟩ w0_9 h0
  replace h0 := p2_e h0
  replace h0 := p2_e h0
  replace h0 := p2_e h0
  replace h0 := p2_e h0
  replace h0 := p2_e h0
  replace h0 := p2_e h0
  replace h0 := p2_e h0
  replace h0 := p2_e h0
  refine tc tbk 1 (.mk ?_)
  refine jn h0 [] [] (fun (a : Bool) (k : Unit) => [(6, boo a)]) (fun a k => []) ⟨fun j125 h1 => ?_, ?_⟩
  refine tc tbk 2 (.mk ?_)
  obtain ⟨x126, e126, h1⟩ := bind_e h1
  refine sY (yv_callT (v := boo x126) rfl rfl (.cons rfl .nil) cal8 (.cons (CvL.agg (.cons (.refl _) (.cons (.refl _) (.cons (.refl _) (.cons (.refl _) (.cons (.refl _) (.cons (.refl _) (.cons (.refl _) (.cons (.refl _) (.cons (cv_lst rfl rfl rfl rfl rfl (Eq.symm rfl)) .nil)))))))))) .nil) (d_ops_Check_c e126) rfl) ?_
  refine nb tbk h1 fun x127 h1 => ?_
  refine tr tbk 1 (.mk ?_)
  cases x127
  replace h1 := cf h1
  refine tr tbk 10 (.mk ?_)
  exact lf h1 () leA
  replace h1 := ct h1
  refine tr tbk 1 (.mk ?_)
  refine sY (yv_buildSlice (ps := [(0, _)]) (rows := [[int y0_1, int y0_2, int y0_3, int y0_4, int y0_5, int y0_6, int y0_7, int y0_8, .sl 5 w0_9 0 y0_10.length]]) rfl Try.underlying22 bz28 (.cons rfl .nil) (by kernel_rfl) rfl rfl rfl) ?_
  obtain ⟨x128, e128, h1⟩ := bind_e h1
  refine sY (yv_callT (v := str x128) rfl rfl (.cons rfl .nil) cal14 (.cons (CvLL.list (.cons (.cons (.refl _) (.cons (.refl _) (.cons (.refl _) (.cons (.refl _) (.cons (.refl _) (.cons (.refl _) (.cons (.refl _) (.cons (.refl _) (.cons (cv_lst rfl rfl rfl rfl rfl (Eq.symm rfl)) .nil))))))))) .nil)) .nil) (d_ops_Bytes_c e128) rfl) ?_
  obtain ⟨x129, e129, h1⟩ := bnd_e h1
  refine sY (yv_to (y := boo x129) (yv_seql rfl rfl rfl) (congrArg boo e129)) ?_
  refine tr tbk 2 (.mk ?_)
  cases x129
  replace h1 := cf h1
  refine tr tbk 4 (.mk ?_)
  exact lf h1 () leA
  replace h1 := ct h1
  obtain ⟨x130, e130, h1⟩ := bind_e h1
  refine sC cal7 (d_law05_awake_c e130) ?_
  refine tr tbk 3 (.mk ?_)
  exact lf h1 () leA
  rintro y1_1 _ h0
  obtain rfl := nxt_e h0
  refine wR hret (rT .nil) ?_
  exact .refl _
  replace h0 := ct h0
  refine rsas 35 (int 13) rfl (congrArg int (of_decide_eq_true e22)) ?_
  refine sY (yv_indexA rfl Try.underlying43 sh28 rfl rfl (by decide) rfl) ?_
  refine sA 2 z28 fun v131 => ?_
  refine sS ⟨28, 9, true, true, v131, [[int 13, int 0, int 0, int 0, int 0, int 1, int 0, int 0, .sc (.slice none 0 0)]]⟩ sh28 ?_
  refine tr tbk 5 (.mk ?_)
  obtain ⟨x132, e132, h0⟩ := bind_e h0
  refine sY (yv_callP rfl rfl (.cons rfl .nil) cal8 (.cons (CvL.agg (.cons (.refl _) (.cons (.refl _) (.cons (.refl _) (.cons (.refl _) (.cons (.refl _) (.cons (.refl _) (.cons (.refl _) (.cons (.refl _) (.cons (.nil _) .nil)))))))))) .nil) (d_ops_Check_c e132)) ?_
  refine nb tbk h0 fun x133 h0 => ?_
  refine tr tbk 1 (.mk ?_)
  replace h0 := asrt_e h0
  obtain ⟨rfl, h0⟩ := h0
  refine tc tbk 6 (.mk ?_)
  obtain ⟨x134, e134, h0⟩ := bind_e h0
  refine sC cal19 (d_law00_Place_c e134) ?_
  refine tr tbk 1 (.mk ?_)
  refine c_nilcell 2 0 8 5 3 1 (rows := fun v135 => [[int 13, int 0, int 0, int 0, int 0, int 1, int 0, int 0, .sl 5 v135 0 0]]) rfl rfl rfl rfl (fun _ => rfl) ?_; intro v135
  refine jn h0 [6, 9] [] (fun (a : Int × Int × Int × Int × Int × Int × Int × Int × (List Int)) (k : Nat) => []) (fun a k => [(2, ⟨28, 9, true, true, v131, [[int a.1, int a.2.1, int a.2.2.1, int a.2.2.2.1, int a.2.2.2.2.1, int a.2.2.2.2.2.1, int a.2.2.2.2.2.2.1, int a.2.2.2.2.2.2.2.1, .sl 5 k 0 a.2.2.2.2.2.2.2.2.length]]⟩), (5, ⟨3, 1, true, true, k, a.2.2.2.2.2.2.2.2.map fI⟩)]) ⟨fun j136 h1 => ?_, ?_⟩
  refine tc tbk 3 (.mk ?_)
  refine nb tbk h1 fun x137 h1 => ?_
  refine tr tbk 2 (.mk ?_)
  cases x137
  replace h1 := cf h1
  refine tc tbk 3 (.mk ?_)
  refine nb tbk h1 fun x138 h1 => ?_
  refine tr tbk 2 (.mk ?_)
  cases x138
  replace h1 := cf h1
  refine tc tbk 3 (.mk ?_)
  refine nb tbk h1 fun x139 h1 => ?_
  refine tr tbk 2 (.mk ?_)
  cases x139
  replace h1 := cf h1
  refine tc tbk 3 (.mk ?_)
  refine nb tbk h1 fun x140 h1 => ?_
  refine tr tbk 2 (.mk ?_)
  cases x140
  replace h1 := cf h1
  refine tc tbk 3 (.mk ?_)
  refine nb tbk h1 fun x141 h1 => ?_
  refine tr tbk 2 (.mk ?_)
  cases x141
  replace h1 := cf h1
  refine tc tbk 3 (.mk ?_)
  refine nb tbk h1 fun x142 h1 => ?_
  refine tr tbk 2 (.mk ?_)
  cases x142
  replace h1 := cf h1
  refine tc tbk 3 (.mk ?_)
  refine nb tbk h1 fun x143 h1 => ?_
  refine tr tbk 2 (.mk ?_)
  cases x143
  replace h1 := cf h1
  refine tc tbk 3 (.mk ?_)
  refine nb tbk h1 fun x144 h1 => ?_
  refine tr tbk 2 (.mk ?_)
  cases x144
  replace h1 := cf h1
  refine tc tbk 3 (.mk ?_)
  refine nb tbk h1 fun x145 h1 => ?_
  refine tr tbk 2 (.mk ?_)
  cases x145
  replace h1 := cf h1
  refine tc tbk 5 (.mk ?_)
  refine ni tbk h1 fun x146 h1 => ?_
  refine rse rfl rfl rfl (yl_buildO (ps := [(0, _)]) 3 [[int x146]] .any rfl Try.underlying26 bz3 (.cons rfl .nil) (by kernel_rfl) rfl rfl rfl) ?_; rintro _ _ ⟨v147, -, rfl, rfl⟩
  obtain ⟨x148, e148, h1⟩ := bnd_e h1
  obtain ⟨p149, h1⟩ := asrt_e h1
  refine rse rfl rfl rfl (Yield.frz 3 rfl (yl_appT (g := fI) (l := ([] : List Int)) (m := ([x146] : List Int)) .any rfl Try.underlying26 bz3 by3 rfl rfl rfl rfl rfl rfl rfl rfl rfl rfl (Eq.symm rfl) (cv_lst rfl rfl rfl rfl rfl (Eq.symm rfl)) (fun _ => rfl) e148 p149)) ?_; rintro _ _ ⟨v150, -, rfl, rfl⟩
  refine tr tbk 1 (.mk ?_)
  refine sS ⟨28, 9, true, true, v131, [[int 13, int 0, int 0, int 0, int 0, int 1, int 0, int 0, .sl 5 v150 0 x148.length]]⟩ sh26 ?_
  refine tr tbk 2 (.mk ?_)
  exact lf h1 v150 leA
  replace h1 := ct h1
  refine tc tbk 3 (.mk ?_)
  refine ni tbk h1 fun x151 h1 => ?_
  refine tr tbk 1 (.mk ?_)
  refine sS ⟨28, 9, true, true, v131, [[int 13, int 0, int 0, int 0, int 0, int 1, int 0, int x151, .sl 5 v135 0 0]]⟩ sh3 ?_
  refine tr tbk 2 (.mk ?_)
  exact lf h1 v135 leA
  replace h1 := ct h1
  refine tc tbk 3 (.mk ?_)
  refine ni tbk h1 fun x152 h1 => ?_
  refine tr tbk 1 (.mk ?_)
  refine sS ⟨28, 9, true, true, v131, [[int 13, int 0, int 0, int 0, int 0, int 1, int x152, int 0, .sl 5 v135 0 0]]⟩ sh3 ?_
  refine tr tbk 2 (.mk ?_)
  exact lf h1 v135 leA
  replace h1 := ct h1
  refine tc tbk 3 (.mk ?_)
  refine ni tbk h1 fun x153 h1 => ?_
  refine tr tbk 1 (.mk ?_)
  refine sS ⟨28, 9, true, true, v131, [[int 13, int 0, int 0, int 0, int 0, int x153, int 0, int 0, .sl 5 v135 0 0]]⟩ sh3 ?_
  refine tr tbk 2 (.mk ?_)
  exact lf h1 v135 leA
  replace h1 := ct h1
  refine tc tbk 3 (.mk ?_)
  refine ni tbk h1 fun x154 h1 => ?_
  refine tr tbk 1 (.mk ?_)
  refine sS ⟨28, 9, true, true, v131, [[int 13, int 0, int 0, int 0, int x154, int 1, int 0, int 0, .sl 5 v135 0 0]]⟩ sh3 ?_
  refine tr tbk 2 (.mk ?_)
  exact lf h1 v135 leA
  replace h1 := ct h1
  refine tc tbk 3 (.mk ?_)
  refine ni tbk h1 fun x155 h1 => ?_
  refine tr tbk 1 (.mk ?_)
  refine sS ⟨28, 9, true, true, v131, [[int 13, int 0, int 0, int x155, int 0, int 1, int 0, int 0, .sl 5 v135 0 0]]⟩ sh3 ?_
  refine tr tbk 2 (.mk ?_)
  exact lf h1 v135 leA
  replace h1 := ct h1
  refine tc tbk 3 (.mk ?_)
  refine ni tbk h1 fun x156 h1 => ?_
  refine tr tbk 1 (.mk ?_)
  refine sS ⟨28, 9, true, true, v131, [[int 13, int 0, int x156, int 0, int 0, int 1, int 0, int 0, .sl 5 v135 0 0]]⟩ sh3 ?_
  refine tr tbk 2 (.mk ?_)
  exact lf h1 v135 leA
  replace h1 := ct h1
  refine tc tbk 3 (.mk ?_)
  refine ni tbk h1 fun x157 h1 => ?_
  refine tr tbk 1 (.mk ?_)
  refine sS ⟨28, 9, true, true, v131, [[int 13, int x157, int 0, int 0, int 0, int 1, int 0, int 0, .sl 5 v135 0 0]]⟩ sh3 ?_
  refine tr tbk 2 (.mk ?_)
  exact lf h1 v135 leA
  replace h1 := ct h1
  refine tc tbk 3 (.mk ?_)
  refine ni tbk h1 fun x158 h1 => ?_
  refine tr tbk 1 (.mk ?_)
  refine sS ⟨28, 9, true, true, v131, [[int x158, int 0, int 0, int 0, int 0, int 1, int 0, int 0, .sl 5 v135 0 0]]⟩ sh3 ?_
  refine tr tbk 2 (.mk ?_)
  exact lf h1 v135 leA
  replace h1 := ct h1
  refine tc tbk 3 (.mk ?_)
  refine ni tbk h1 fun x159 h1 => ?_
  refine tr tbk 1 (.mk ?_)
  refine sS ⟨28, 9, true, true, v131, [[int x159, int 0, int 0, int 0, int 0, int 1, int 0, int 0, .sl 5 v135 0 0]]⟩ sh3 ?_
  refine tr tbk 2 (.mk ?_)
  exact lf h1 v135 leA
  rintro ⟨y0_1, y0_2, y0_3, y0_4, y0_5, y0_6, y0_7, y0_8, y0_10⟩ w0_9 h0
  replace h0 := p2_e h0
  replace h0 := p2_e h0
  replace h0 := p2_e h0
  replace h0 := p2_e h0
  replace h0 := p2_e h0
  replace h0 := p2_e h0
  replace h0 := p2_e h0
  replace h0 := p2_e h0
  refine tc tbk 1 (.mk ?_)
  refine jn h0 [] [] (fun (a : Bool) (k : Unit) => [(6, boo a)]) (fun a k => []) ⟨fun j160 h1 => ?_, ?_⟩
  refine tc tbk 2 (.mk ?_)
  obtain ⟨x161, e161, h1⟩ := bind_e h1
  refine sY (yv_callT (v := boo x161) rfl rfl (.cons rfl .nil) cal8 (.cons (CvL.agg (.cons (.refl _) (.cons (.refl _) (.cons (.refl _) (.cons (.refl _) (.cons (.refl _) (.cons (.refl _) (.cons (.refl _) (.cons (.refl _) (.cons (cv_lst rfl rfl rfl rfl rfl (Eq.symm rfl)) .nil)))))))))) .nil) (d_ops_Check_c e161) rfl) ?_
  refine nb tbk h1 fun x162 h1 => ?_
  refine tr tbk 1 (.mk ?_)
  cases x162
  replace h1 := cf h1
  refine tr tbk 10 (.mk ?_)
  exact lf h1 () leA
  replace h1 := ct h1
  refine tr tbk 1 (.mk ?_)
  refine sY (yv_buildSlice (ps := [(0, _)]) (rows := [[int y0_1, int y0_2, int y0_3, int y0_4, int y0_5, int y0_6, int y0_7, int y0_8, .sl 5 w0_9 0 y0_10.length]]) rfl Try.underlying22 bz28 (.cons rfl .nil) (by kernel_rfl) rfl rfl rfl) ?_
  obtain ⟨x163, e163, h1⟩ := bind_e h1
  refine sY (yv_callT (v := str x163) rfl rfl (.cons rfl .nil) cal14 (.cons (CvLL.list (.cons (.cons (.refl _) (.cons (.refl _) (.cons (.refl _) (.cons (.refl _) (.cons (.refl _) (.cons (.refl _) (.cons (.refl _) (.cons (.refl _) (.cons (cv_lst rfl rfl rfl rfl rfl (Eq.symm rfl)) .nil))))))))) .nil)) .nil) (d_ops_Bytes_c e163) rfl) ?_
  obtain ⟨x164, e164, h1⟩ := bnd_e h1
  refine sY (yv_to (y := boo x164) (yv_seql rfl rfl rfl) (congrArg boo e164)) ?_
  refine tr tbk 2 (.mk ?_)
  cases x164
  replace h1 := cf h1
  refine tr tbk 4 (.mk ?_)
  exact lf h1 () leA
  replace h1 := ct h1
  obtain ⟨x165, e165, h1⟩ := bind_e h1
  refine sC cal7 (d_law05_awake_c e165) ?_
  refine tr tbk 3 (.mk ?_)
  exact lf h1 () leA
  rintro y1_1 _ h0
  obtain rfl := nxt_e h0
  refine wR hret (rT .nil) ?_
  exact .refl _
  replace h0 := ct h0
  refine rsas 35 (int 12) rfl (congrArg int (of_decide_eq_true e21)) ?_
  refine sY (yv_indexA rfl Try.underlying43 sh28 rfl rfl (by decide) rfl) ?_
  refine sA 2 z28 fun v166 => ?_
  refine sS ⟨28, 9, true, true, v166, [[int 12, int 0, int 0, int 0, int 1, int 1, int 0, int 0, .sc (.slice none 0 0)]]⟩ sh28 ?_
  refine tr tbk 5 (.mk ?_)
  obtain ⟨x167, e167, h0⟩ := bind_e h0
  refine sY (yv_callP rfl rfl (.cons rfl .nil) cal8 (.cons (CvL.agg (.cons (.refl _) (.cons (.refl _) (.cons (.refl _) (.cons (.refl _) (.cons (.refl _) (.cons (.refl _) (.cons (.refl _) (.cons (.refl _) (.cons (.nil _) .nil)))))))))) .nil) (d_ops_Check_c e167)) ?_
  refine nb tbk h0 fun x168 h0 => ?_
  refine tr tbk 1 (.mk ?_)
  replace h0 := asrt_e h0
  obtain ⟨rfl, h0⟩ := h0
  refine tc tbk 6 (.mk ?_)
  obtain ⟨x169, e169, h0⟩ := bind_e h0
  refine sC cal19 (d_law00_Place_c e169) ?_
  refine tr tbk 1 (.mk ?_)
  refine c_nilcell 2 0 8 5 3 1 (rows := fun v170 => [[int 12, int 0, int 0, int 0, int 1, int 1, int 0, int 0, .sl 5 v170 0 0]]) rfl rfl rfl rfl (fun _ => rfl) ?_; intro v170
  refine jn h0 [6, 9] [] (fun (a : Int × Int × Int × Int × Int × Int × Int × Int × (List Int)) (k : Nat) => []) (fun a k => [(2, ⟨28, 9, true, true, v166, [[int a.1, int a.2.1, int a.2.2.1, int a.2.2.2.1, int a.2.2.2.2.1, int a.2.2.2.2.2.1, int a.2.2.2.2.2.2.1, int a.2.2.2.2.2.2.2.1, .sl 5 k 0 a.2.2.2.2.2.2.2.2.length]]⟩), (5, ⟨3, 1, true, true, k, a.2.2.2.2.2.2.2.2.map fI⟩)]) ⟨fun j171 h1 => ?_, ?_⟩
  refine tc tbk 3 (.mk ?_)
  refine nb tbk h1 fun x172 h1 => ?_
  refine tr tbk 2 (.mk ?_)
  cases x172
  replace h1 := cf h1
  refine tc tbk 3 (.mk ?_)
  refine nb tbk h1 fun x173 h1 => ?_
  refine tr tbk 2 (.mk ?_)
  cases x173
  replace h1 := cf h1
  refine tc tbk 3 (.mk ?_)
  refine nb tbk h1 fun x174 h1 => ?_
  refine tr tbk 2 (.mk ?_)
  cases x174
  replace h1 := cf h1
  refine tc tbk 3 (.mk ?_)
  refine nb tbk h1 fun x175 h1 => ?_
  refine tr tbk 2 (.mk ?_)
  cases x175
  replace h1 := cf h1
  refine tc tbk 3 (.mk ?_)
  refine nb tbk h1 fun x176 h1 => ?_
  refine tr tbk 2 (.mk ?_)
  cases x176
  replace h1 := cf h1
  refine tc tbk 3 (.mk ?_)
  refine nb tbk h1 fun x177 h1 => ?_
  refine tr tbk 2 (.mk ?_)
  cases x177
  replace h1 := cf h1
  refine tc tbk 3 (.mk ?_)
  refine nb tbk h1 fun x178 h1 => ?_
  refine tr tbk 2 (.mk ?_)
  cases x178
  replace h1 := cf h1
  refine tc tbk 3 (.mk ?_)
  refine nb tbk h1 fun x179 h1 => ?_
  refine tr tbk 2 (.mk ?_)
  cases x179
  replace h1 := cf h1
  refine tc tbk 3 (.mk ?_)
  refine nb tbk h1 fun x180 h1 => ?_
  refine tr tbk 2 (.mk ?_)
  cases x180
  replace h1 := cf h1
  refine tc tbk 5 (.mk ?_)
  refine ni tbk h1 fun x181 h1 => ?_
  refine rse rfl rfl rfl (yl_buildO (ps := [(0, _)]) 3 [[int x181]] .any rfl Try.underlying26 bz3 (.cons rfl .nil) (by kernel_rfl) rfl rfl rfl) ?_; rintro _ _ ⟨v182, -, rfl, rfl⟩
  obtain ⟨x183, e183, h1⟩ := bnd_e h1
  obtain ⟨p184, h1⟩ := asrt_e h1
  refine rse rfl rfl rfl (Yield.frz 3 rfl (yl_appT (g := fI) (l := ([] : List Int)) (m := ([x181] : List Int)) .any rfl Try.underlying26 bz3 by3 rfl rfl rfl rfl rfl rfl rfl rfl rfl rfl (Eq.symm rfl) (cv_lst rfl rfl rfl rfl rfl (Eq.symm rfl)) (fun _ => rfl) e183 p184)) ?_; rintro _ _ ⟨v185, -, rfl, rfl⟩
  refine tr tbk 1 (.mk ?_)
  refine sS ⟨28, 9, true, true, v166, [[int 12, int 0, int 0, int 0, int 1, int 1, int 0, int 0, .sl 5 v185 0 x183.length]]⟩ sh26 ?_
  refine tr tbk 2 (.mk ?_)
  exact lf h1 v185 leA
  replace h1 := ct h1
  refine tc tbk 3 (.mk ?_)
  refine ni tbk h1 fun x186 h1 => ?_
  refine tr tbk 1 (.mk ?_)
  refine sS ⟨28, 9, true, true, v166, [[int 12, int 0, int 0, int 0, int 1, int 1, int 0, int x186, .sl 5 v170 0 0]]⟩ sh3 ?_
  refine tr tbk 2 (.mk ?_)
  exact lf h1 v170 leA
  replace h1 := ct h1
  refine tc tbk 3 (.mk ?_)
  refine ni tbk h1 fun x187 h1 => ?_
  refine tr tbk 1 (.mk ?_)
  refine sS ⟨28, 9, true, true, v166, [[int 12, int 0, int 0, int 0, int 1, int 1, int x187, int 0, .sl 5 v170 0 0]]⟩ sh3 ?_
  refine tr tbk 2 (.mk ?_)
  exact lf h1 v170 leA
  replace h1 := ct h1
  refine tc tbk 3 (.mk ?_)
  refine ni tbk h1 fun x188 h1 => ?_
  refine tr tbk 1 (.mk ?_)
  refine sS ⟨28, 9, true, true, v166, [[int 12, int 0, int 0, int 0, int 1, int x188, int 0, int 0, .sl 5 v170 0 0]]⟩ sh3 ?_
  refine tr tbk 2 (.mk ?_)
  exact lf h1 v170 leA
  replace h1 := ct h1
  refine tc tbk 3 (.mk ?_)
  refine ni tbk h1 fun x189 h1 => ?_
  refine tr tbk 1 (.mk ?_)
  refine sS ⟨28, 9, true, true, v166, [[int 12, int 0, int 0, int 0, int x189, int 1, int 0, int 0, .sl 5 v170 0 0]]⟩ sh3 ?_
  refine tr tbk 2 (.mk ?_)
  exact lf h1 v170 leA
  replace h1 := ct h1
  refine tc tbk 3 (.mk ?_)
  refine ni tbk h1 fun x190 h1 => ?_
  refine tr tbk 1 (.mk ?_)
  refine sS ⟨28, 9, true, true, v166, [[int 12, int 0, int 0, int x190, int 1, int 1, int 0, int 0, .sl 5 v170 0 0]]⟩ sh3 ?_
  refine tr tbk 2 (.mk ?_)
  exact lf h1 v170 leA
  replace h1 := ct h1
  refine tc tbk 3 (.mk ?_)
  refine ni tbk h1 fun x191 h1 => ?_
  refine tr tbk 1 (.mk ?_)
  refine sS ⟨28, 9, true, true, v166, [[int 12, int 0, int x191, int 0, int 1, int 1, int 0, int 0, .sl 5 v170 0 0]]⟩ sh3 ?_
  refine tr tbk 2 (.mk ?_)
  exact lf h1 v170 leA
  replace h1 := ct h1
  refine tc tbk 3 (.mk ?_)
  refine ni tbk h1 fun x192 h1 => ?_
  refine tr tbk 1 (.mk ?_)
  refine sS ⟨28, 9, true, true, v166, [[int 12, int x192, int 0, int 0, int 1, int 1, int 0, int 0, .sl 5 v170 0 0]]⟩ sh3 ?_
  refine tr tbk 2 (.mk ?_)
  exact lf h1 v170 leA
  replace h1 := ct h1
  refine tc tbk 3 (.mk ?_)
  refine ni tbk h1 fun x193 h1 => ?_
  refine tr tbk 1 (.mk ?_)
  refine sS ⟨28, 9, true, true, v166, [[int x193, int 0, int 0, int 0, int 1, int 1, int 0, int 0, .sl 5 v170 0 0]]⟩ sh3 ?_
  refine tr tbk 2 (.mk ?_)
  exact lf h1 v170 leA
  replace h1 := ct h1
  refine tc tbk 3 (.mk ?_)
  refine ni tbk h1 fun x194 h1 => ?_
  refine tr tbk 1 (.mk ?_)
  refine sS ⟨28, 9, true, true, v166, [[int x194, int 0, int 0, int 0, int 1, int 1, int 0, int 0, .sl 5 v170 0 0]]⟩ sh3 ?_
  refine tr tbk 2 (.mk ?_)
  exact lf h1 v170 leA
  rintro ⟨y0_1, y0_2, y0_3, y0_4, y0_5, y0_6, y0_7, y0_8, y0_10⟩ w0_9 h0
  replace h0 := p2_e h0
  replace h0 := p2_e h0
  replace h0 := p2_e h0
  replace h0 := p2_e h0
  replace h0 := p2_e h0
  replace h0 := p2_e h0
  replace h0 := p2_e h0
  replace h0 := p2_e h0
  refine tc tbk 1 (.mk ?_)
  refine jn h0 [] [] (fun (a : Bool) (k : Unit) => [(6, boo a)]) (fun a k => []) ⟨fun j195 h1 => ?_, ?_⟩
  refine tc tbk 2 (.mk ?_)
  obtain ⟨x196, e196, h1⟩ := bind_e h1
  refine sY (yv_callT (v := boo x196) rfl rfl (.cons rfl .nil) cal8 (.cons (CvL.agg (.cons (.refl _) (.cons (.refl _) (.cons (.refl _) (.cons (.refl _) (.cons (.refl _) (.cons (.refl _) (.cons (.refl _) (.cons (.refl _) (.cons (cv_lst rfl rfl rfl rfl rfl (Eq.symm rfl)) .nil)))))))))) .nil) (d_ops_Check_c e196) rfl) ?_
  refine nb tbk h1 fun x197 h1 => ?_
  refine tr tbk 1 (.mk ?_)
  cases x197
  replace h1 := cf h1
  refine tr tbk 10 (.mk ?_)
  exact lf h1 () leA
  replace h1 := ct h1
  refine tr tbk 1 (.mk ?_)
  refine sY (yv_buildSlice (ps := [(0, _)]) (rows := [[int y0_1, int y0_2, int y0_3, int y0_4, int y0_5, int y0_6, int y0_7, int y0_8, .sl 5 w0_9 0 y0_10.length]]) rfl Try.underlying22 bz28 (.cons rfl .nil) (by kernel_rfl) rfl rfl rfl) ?_
  obtain ⟨x198, e198, h1⟩ := bind_e h1
  refine sY (yv_callT (v := str x198) rfl rfl (.cons rfl .nil) cal14 (.cons (CvLL.list (.cons (.cons (.refl _) (.cons (.refl _) (.cons (.refl _) (.cons (.refl _) (.cons (.refl _) (.cons (.refl _) (.cons (.refl _) (.cons (.refl _) (.cons (cv_lst rfl rfl rfl rfl rfl (Eq.symm rfl)) .nil))))))))) .nil)) .nil) (d_ops_Bytes_c e198) rfl) ?_
  obtain ⟨x199, e199, h1⟩ := bnd_e h1
  refine sY (yv_to (y := boo x199) (yv_seql rfl rfl rfl) (congrArg boo e199)) ?_
  refine tr tbk 2 (.mk ?_)
  cases x199
  replace h1 := cf h1
  refine tr tbk 4 (.mk ?_)
  exact lf h1 () leA
  replace h1 := ct h1
  obtain ⟨x200, e200, h1⟩ := bind_e h1
  refine sC cal7 (d_law05_awake_c e200) ?_
  refine tr tbk 3 (.mk ?_)
  exact lf h1 () leA
  rintro y1_1 _ h0
  obtain rfl := nxt_e h0
  refine wR hret (rT .nil) ?_
  exact .refl _
  replace h0 := ct h0
  refine rsas 35 (int 11) rfl (congrArg int (of_decide_eq_true e20)) ?_
  refine sY (yv_indexA rfl Try.underlying43 sh28 rfl rfl (by decide) rfl) ?_
  refine sA 2 z28 fun v201 => ?_
  refine sS ⟨28, 9, true, true, v201, [[int 11, int 0, int 0, int 0, int 0, int 0, int 0, int 0, .sl 1 v8 0 1]]⟩ sh28 ?_
  refine tr tbk 5 (.mk ?_)
  obtain ⟨x202, e202, h0⟩ := bind_e h0
  refine sY (yv_callT (v := boo x202) rfl rfl (.cons rfl .nil) cal8 (.cons (CvL.agg (.cons (.refl _) (.cons (.refl _) (.cons (.refl _) (.cons (.refl _) (.cons (.refl _) (.cons (.refl _) (.cons (.refl _) (.cons (.refl _) (.cons (cv_lst rfl rfl rfl rfl rfl (Eq.symm rfl)) .nil)))))))))) .nil) (d_ops_Check_c e202) rfl) ?_
  refine nb tbk h0 fun x203 h0 => ?_
  refine tr tbk 1 (.mk ?_)
  replace h0 := asrt_e h0
  obtain ⟨rfl, h0⟩ := h0
  refine tc tbk 6 (.mk ?_)
  obtain ⟨x204, e204, h0⟩ := bind_e h0
  refine sC cal19 (d_law00_Place_c e204) ?_
  refine tr tbk 1 (.mk ?_)
  refine jn h0 [6, 9] [] (fun (a : Int × Int × Int × Int × Int × Int × Int × Int × (List Int)) (k : Nat) => []) (fun a k => [(1, ⟨3, 1, true, true, k, a.2.2.2.2.2.2.2.2.map fI⟩), (2, ⟨28, 9, true, true, v201, [[int a.1, int a.2.1, int a.2.2.1, int a.2.2.2.1, int a.2.2.2.2.1, int a.2.2.2.2.2.1, int a.2.2.2.2.2.2.1, int a.2.2.2.2.2.2.2.1, .sl 1 k 0 a.2.2.2.2.2.2.2.2.length]]⟩)]) ⟨fun j205 h1 => ?_, ?_⟩
  refine tc tbk 3 (.mk ?_)
  refine nb tbk h1 fun x206 h1 => ?_
  refine tr tbk 2 (.mk ?_)
  cases x206
  replace h1 := cf h1
  refine tc tbk 3 (.mk ?_)
  refine nb tbk h1 fun x207 h1 => ?_
  refine tr tbk 2 (.mk ?_)
  cases x207
  replace h1 := cf h1
  refine tc tbk 3 (.mk ?_)
  refine nb tbk h1 fun x208 h1 => ?_
  refine tr tbk 2 (.mk ?_)
  cases x208
  replace h1 := cf h1
  refine tc tbk 3 (.mk ?_)
  refine nb tbk h1 fun x209 h1 => ?_
  refine tr tbk 2 (.mk ?_)
  cases x209
  replace h1 := cf h1
  refine tc tbk 3 (.mk ?_)
  refine nb tbk h1 fun x210 h1 => ?_
  refine tr tbk 2 (.mk ?_)
  cases x210
  replace h1 := cf h1
  refine tc tbk 3 (.mk ?_)
  refine nb tbk h1 fun x211 h1 => ?_
  refine tr tbk 2 (.mk ?_)
  cases x211
  replace h1 := cf h1
  refine tc tbk 3 (.mk ?_)
  refine nb tbk h1 fun x212 h1 => ?_
  refine tr tbk 2 (.mk ?_)
  cases x212
  replace h1 := cf h1
  refine tc tbk 3 (.mk ?_)
  refine nb tbk h1 fun x213 h1 => ?_
  refine tr tbk 2 (.mk ?_)
  cases x213
  replace h1 := cf h1
  refine tc tbk 3 (.mk ?_)
  refine nb tbk h1 fun x214 h1 => ?_
  refine tr tbk 2 (.mk ?_)
  cases x214
  replace h1 := cf h1
  refine tc tbk 5 (.mk ?_)
  refine ni tbk h1 fun x215 h1 => ?_
  refine rse rfl rfl rfl (yl_buildO (ps := [(0, _)]) 3 [[int x215]] .any rfl Try.underlying26 bz3 (.cons rfl .nil) (by kernel_rfl) rfl rfl rfl) ?_; rintro _ _ ⟨v216, -, rfl, rfl⟩
  obtain ⟨x217, e217, h1⟩ := bnd_e h1
  obtain ⟨p218, h1⟩ := asrt_e h1
  refine rse rfl rfl rfl (Yield.frz 3 rfl (yl_appT (g := fI) (l := ([0] : List Int)) (m := ([x215] : List Int)) .any rfl Try.underlying26 bz3 by3 rfl rfl rfl rfl rfl rfl rfl rfl rfl rfl (Eq.symm rfl) (cv_lst rfl rfl rfl rfl rfl (Eq.symm rfl)) (fun _ => rfl) e217 p218)) ?_; rintro _ _ ⟨v219, -, rfl, rfl⟩
  refine tr tbk 1 (.mk ?_)
  refine sS ⟨28, 9, true, true, v201, [[int 11, int 0, int 0, int 0, int 0, int 0, int 0, int 0, .sl 1 v219 0 x217.length]]⟩ sh26 ?_
  refine tr tbk 2 (.mk ?_)
  exact lf h1 v219 leA
  replace h1 := ct h1
  refine tc tbk 3 (.mk ?_)
  refine ni tbk h1 fun x220 h1 => ?_
  refine tr tbk 1 (.mk ?_)
  refine sS ⟨28, 9, true, true, v201, [[int 11, int 0, int 0, int 0, int 0, int 0, int 0, int x220, .sl 1 v8 0 1]]⟩ sh3 ?_
  refine tr tbk 2 (.mk ?_)
  exact lf h1 v8 leA
  replace h1 := ct h1
  refine tc tbk 3 (.mk ?_)
  refine ni tbk h1 fun x221 h1 => ?_
  refine tr tbk 1 (.mk ?_)
  refine sS ⟨28, 9, true, true, v201, [[int 11, int 0, int 0, int 0, int 0, int 0, int x221, int 0, .sl 1 v8 0 1]]⟩ sh3 ?_
  refine tr tbk 2 (.mk ?_)
  exact lf h1 v8 leA
  replace h1 := ct h1
  refine tc tbk 3 (.mk ?_)
  refine ni tbk h1 fun x222 h1 => ?_
  refine tr tbk 1 (.mk ?_)
  refine sS ⟨28, 9, true, true, v201, [[int 11, int 0, int 0, int 0, int 0, int x222, int 0, int 0, .sl 1 v8 0 1]]⟩ sh3 ?_
  refine tr tbk 2 (.mk ?_)
  exact lf h1 v8 leA
  replace h1 := ct h1
  refine tc tbk 3 (.mk ?_)
  refine ni tbk h1 fun x223 h1 => ?_
  refine tr tbk 1 (.mk ?_)
  refine sS ⟨28, 9, true, true, v201, [[int 11, int 0, int 0, int 0, int x223, int 0, int 0, int 0, .sl 1 v8 0 1]]⟩ sh3 ?_
  refine tr tbk 2 (.mk ?_)
  exact lf h1 v8 leA
  replace h1 := ct h1
  refine tc tbk 3 (.mk ?_)
  refine ni tbk h1 fun x224 h1 => ?_
  refine tr tbk 1 (.mk ?_)
  refine sS ⟨28, 9, true, true, v201, [[int 11, int 0, int 0, int x224, int 0, int 0, int 0, int 0, .sl 1 v8 0 1]]⟩ sh3 ?_
  refine tr tbk 2 (.mk ?_)
  exact lf h1 v8 leA
  replace h1 := ct h1
  refine tc tbk 3 (.mk ?_)
  refine ni tbk h1 fun x225 h1 => ?_
  refine tr tbk 1 (.mk ?_)
  refine sS ⟨28, 9, true, true, v201, [[int 11, int 0, int x225, int 0, int 0, int 0, int 0, int 0, .sl 1 v8 0 1]]⟩ sh3 ?_
  refine tr tbk 2 (.mk ?_)
  exact lf h1 v8 leA
  replace h1 := ct h1
  refine tc tbk 3 (.mk ?_)
  refine ni tbk h1 fun x226 h1 => ?_
  refine tr tbk 1 (.mk ?_)
  refine sS ⟨28, 9, true, true, v201, [[int 11, int x226, int 0, int 0, int 0, int 0, int 0, int 0, .sl 1 v8 0 1]]⟩ sh3 ?_
  refine tr tbk 2 (.mk ?_)
  exact lf h1 v8 leA
  replace h1 := ct h1
  refine tc tbk 3 (.mk ?_)
  refine ni tbk h1 fun x227 h1 => ?_
  refine tr tbk 1 (.mk ?_)
  refine sS ⟨28, 9, true, true, v201, [[int x227, int 0, int 0, int 0, int 0, int 0, int 0, int 0, .sl 1 v8 0 1]]⟩ sh3 ?_
  refine tr tbk 2 (.mk ?_)
  exact lf h1 v8 leA
  replace h1 := ct h1
  refine tc tbk 3 (.mk ?_)
  refine ni tbk h1 fun x228 h1 => ?_
  refine tr tbk 1 (.mk ?_)
  refine sS ⟨28, 9, true, true, v201, [[int x228, int 0, int 0, int 0, int 0, int 0, int 0, int 0, .sl 1 v8 0 1]]⟩ sh3 ?_
  refine tr tbk 2 (.mk ?_)
  exact lf h1 v8 leA
  rintro ⟨y0_1, y0_2, y0_3, y0_4, y0_5, y0_6, y0_7, y0_8, y0_10⟩ w0_9 h0
  replace h0 := p2_e h0
  replace h0 := p2_e h0
  replace h0 := p2_e h0
  replace h0 := p2_e h0
  replace h0 := p2_e h0
  replace h0 := p2_e h0
  replace h0 := p2_e h0
  replace h0 := p2_e h0
  refine tc tbk 1 (.mk ?_)
  refine jn h0 [] [] (fun (a : Bool) (k : Unit) => [(6, boo a)]) (fun a k => []) ⟨fun j229 h1 => ?_, ?_⟩
  refine tc tbk 2 (.mk ?_)
  obtain ⟨x230, e230, h1⟩ := bind_e h1
  refine sY (yv_callT (v := boo x230) rfl rfl (.cons rfl .nil) cal8 (.cons (CvL.agg (.cons (.refl _) (.cons (.refl _) (.cons (.refl _) (.cons (.refl _) (.cons (.refl _) (.cons (.refl _) (.cons (.refl _) (.cons (.refl _) (.cons (cv_lst rfl rfl rfl rfl rfl (Eq.symm rfl)) .nil)))))))))) .nil) (d_ops_Check_c e230) rfl) ?_
  refine nb tbk h1 fun x231 h1 => ?_
  refine tr tbk 1 (.mk ?_)
  cases x231
  replace h1 := cf h1
  refine tr tbk 10 (.mk ?_)
  exact lf h1 () leA
  replace h1 := ct h1
  refine tr tbk 1 (.mk ?_)
  refine sY (yv_buildSlice (ps := [(0, _)]) (rows := [[int y0_1, int y0_2, int y0_3, int y0_4, int y0_5, int y0_6, int y0_7, int y0_8, .sl 1 w0_9 0 y0_10.length]]) rfl Try.underlying22 bz28 (.cons rfl .nil) (by kernel_rfl) rfl rfl rfl) ?_
  obtain ⟨x232, e232, h1⟩ := bind_e h1
  refine sY (yv_callT (v := str x232) rfl rfl (.cons rfl .nil) cal14 (.cons (CvLL.list (.cons (.cons (.refl _) (.cons (.refl _) (.cons (.refl _) (.cons (.refl _) (.cons (.refl _) (.cons (.refl _) (.cons (.refl _) (.cons (.refl _) (.cons (cv_lst rfl rfl rfl rfl rfl (Eq.symm rfl)) .nil))))))))) .nil)) .nil) (d_ops_Bytes_c e232) rfl) ?_
  obtain ⟨x233, e233, h1⟩ := bnd_e h1
  refine sY (yv_to (y := boo x233) (yv_seql rfl rfl rfl) (congrArg boo e233)) ?_
  refine tr tbk 2 (.mk ?_)
  cases x233
  replace h1 := cf h1
  refine tr tbk 4 (.mk ?_)
  exact lf h1 () leA
  replace h1 := ct h1
  obtain ⟨x234, e234, h1⟩ := bind_e h1
  refine sC cal7 (d_law05_awake_c e234) ?_
  refine tr tbk 3 (.mk ?_)
  exact lf h1 () leA
  rintro y1_1 _ h0
  obtain rfl := nxt_e h0
  refine wR hret (rT .nil) ?_
  exact .refl _
  replace h0 := ct h0
  refine rsas 35 (int 10) rfl (congrArg int (of_decide_eq_true e19)) ?_
  refine sY (yv_indexA rfl Try.underlying43 sh28 rfl rfl (by decide) rfl) ?_
  refine sA 2 z28 fun v235 => ?_
  refine sS ⟨28, 9, true, true, v235, [[int 10, int 0, int 0, int 0, int 0, int 0, int 0, int 0, .sc (.slice none 0 0)]]⟩ sh28 ?_
  refine tr tbk 5 (.mk ?_)
  obtain ⟨x236, e236, h0⟩ := bind_e h0
  refine sY (yv_callP rfl rfl (.cons rfl .nil) cal8 (.cons (CvL.agg (.cons (.refl _) (.cons (.refl _) (.cons (.refl _) (.cons (.refl _) (.cons (.refl _) (.cons (.refl _) (.cons (.refl _) (.cons (.refl _) (.cons (.nil _) .nil)))))))))) .nil) (d_ops_Check_c e236)) ?_
  refine nb tbk h0 fun x237 h0 => ?_
  refine tr tbk 1 (.mk ?_)
  replace h0 := asrt_e h0
  obtain ⟨rfl, h0⟩ := h0
  refine tc tbk 6 (.mk ?_)
  obtain ⟨x238, e238, h0⟩ := bind_e h0
  refine sC cal19 (d_law00_Place_c e238) ?_
  refine tr tbk 1 (.mk ?_)
  refine c_nilcell 2 0 8 5 3 1 (rows := fun v239 => [[int 10, int 0, int 0, int 0, int 0, int 0, int 0, int 0, .sl 5 v239 0 0]]) rfl rfl rfl rfl (fun _ => rfl) ?_; intro v239
  refine jn h0 [6, 9] [] (fun (a : Int × Int × Int × Int × Int × Int × Int × Int × (List Int)) (k : Nat) => []) (fun a k => [(2, ⟨28, 9, true, true, v235, [[int a.1, int a.2.1, int a.2.2.1, int a.2.2.2.1, int a.2.2.2.2.1, int a.2.2.2.2.2.1, int a.2.2.2.2.2.2.1, int a.2.2.2.2.2.2.2.1, .sl 5 k 0 a.2.2.2.2.2.2.2.2.length]]⟩), (5, ⟨3, 1, true, true, k, a.2.2.2.2.2.2.2.2.map fI⟩)]) ⟨fun j240 h1 => ?_, ?_⟩
  refine tc tbk 3 (.mk ?_)
  refine nb tbk h1 fun x241 h1 => ?_
  refine tr tbk 2 (.mk ?_)
  cases x241
  replace h1 := cf h1
  refine tc tbk 3 (.mk ?_)
  refine nb tbk h1 fun x242 h1 => ?_
  refine tr tbk 2 (.mk ?_)
  cases x242
  replace h1 := cf h1
  refine tc tbk 3 (.mk ?_)
  refine nb tbk h1 fun x243 h1 => ?_
  refine tr tbk 2 (.mk ?_)
  cases x243
  replace h1 := cf h1
  refine tc tbk 3 (.mk ?_)
  refine nb tbk h1 fun x244 h1 => ?_
  refine tr tbk 2 (.mk ?_)
  cases x244
  replace h1 := cf h1
  refine tc tbk 3 (.mk ?_)
  refine nb tbk h1 fun x245 h1 => ?_
  refine tr tbk 2 (.mk ?_)
  cases x245
  replace h1 := cf h1
  refine tc tbk 3 (.mk ?_)
  refine nb tbk h1 fun x246 h1 => ?_
  refine tr tbk 2 (.mk ?_)
  cases x246
  replace h1 := cf h1
  refine tc tbk 3 (.mk ?_)
  refine nb tbk h1 fun x247 h1 => ?_
  refine tr tbk 2 (.mk ?_)
  cases x247
  replace h1 := cf h1
  refine tc tbk 3 (.mk ?_)
  refine nb tbk h1 fun x248 h1 => ?_
  refine tr tbk 2 (.mk ?_)
  cases x248
  replace h1 := cf h1
  refine tc tbk 3 (.mk ?_)
  refine nb tbk h1 fun x249 h1 => ?_
  refine tr tbk 2 (.mk ?_)
  cases x249
  replace h1 := cf h1
  refine tc tbk 5 (.mk ?_)
  refine ni tbk h1 fun x250 h1 => ?_
  refine rse rfl rfl rfl (yl_buildO (ps := [(0, _)]) 3 [[int x250]] .any rfl Try.underlying26 bz3 (.cons rfl .nil) (by kernel_rfl) rfl rfl rfl) ?_; rintro _ _ ⟨v251, -, rfl, rfl⟩
  obtain ⟨x252, e252, h1⟩ := bnd_e h1
  obtain ⟨p253, h1⟩ := asrt_e h1
  refine rse rfl rfl rfl (Yield.frz 3 rfl (yl_appT (g := fI) (l := ([] : List Int)) (m := ([x250] : List Int)) .any rfl Try.underlying26 bz3 by3 rfl rfl rfl rfl rfl rfl rfl rfl rfl rfl (Eq.symm rfl) (cv_lst rfl rfl rfl rfl rfl (Eq.symm rfl)) (fun _ => rfl) e252 p253)) ?_; rintro _ _ ⟨v254, -, rfl, rfl⟩
  refine tr tbk 1 (.mk ?_)
  refine sS ⟨28, 9, true, true, v235, [[int 10, int 0, int 0, int 0, int 0, int 0, int 0, int 0, .sl 5 v254 0 x252.length]]⟩ sh26 ?_
  refine tr tbk 2 (.mk ?_)
  exact lf h1 v254 leA
  replace h1 := ct h1
  refine tc tbk 3 (.mk ?_)
  refine ni tbk h1 fun x255 h1 => ?_
  refine tr tbk 1 (.mk ?_)
  refine sS ⟨28, 9, true, true, v235, [[int 10, int 0, int 0, int 0, int 0, int 0, int 0, int x255, .sl 5 v239 0 0]]⟩ sh3 ?_
  refine tr tbk 2 (.mk ?_)
  exact lf h1 v239 leA
  replace h1 := ct h1
  refine tc tbk 3 (.mk ?_)
  refine ni tbk h1 fun x256 h1 => ?_
  refine tr tbk 1 (.mk ?_)
  refine sS ⟨28, 9, true, true, v235, [[int 10, int 0, int 0, int 0, int 0, int 0, int x256, int 0, .sl 5 v239 0 0]]⟩ sh3 ?_
  refine tr tbk 2 (.mk ?_)
  exact lf h1 v239 leA
  replace h1 := ct h1
  refine tc tbk 3 (.mk ?_)
  refine ni tbk h1 fun x257 h1 => ?_
  refine tr tbk 1 (.mk ?_)
  refine sS ⟨28, 9, true, true, v235, [[int 10, int 0, int 0, int 0, int 0, int x257, int 0, int 0, .sl 5 v239 0 0]]⟩ sh3 ?_
  refine tr tbk 2 (.mk ?_)
  exact lf h1 v239 leA
  replace h1 := ct h1
  refine tc tbk 3 (.mk ?_)
  refine ni tbk h1 fun x258 h1 => ?_
  refine tr tbk 1 (.mk ?_)
  refine sS ⟨28, 9, true, true, v235, [[int 10, int 0, int 0, int 0, int x258, int 0, int 0, int 0, .sl 5 v239 0 0]]⟩ sh3 ?_
  refine tr tbk 2 (.mk ?_)
  exact lf h1 v239 leA
  replace h1 := ct h1
  refine tc tbk 3 (.mk ?_)
  refine ni tbk h1 fun x259 h1 => ?_
  refine tr tbk 1 (.mk ?_)
  refine sS ⟨28, 9, true, true, v235, [[int 10, int 0, int 0, int x259, int 0, int 0, int 0, int 0, .sl 5 v239 0 0]]⟩ sh3 ?_
  refine tr tbk 2 (.mk ?_)
  exact lf h1 v239 leA
  replace h1 := ct h1
  refine tc tbk 3 (.mk ?_)
  refine ni tbk h1 fun x260 h1 => ?_
  refine tr tbk 1 (.mk ?_)
  refine sS ⟨28, 9, true, true, v235, [[int 10, int 0, int x260, int 0, int 0, int 0, int 0, int 0, .sl 5 v239 0 0]]⟩ sh3 ?_
  refine tr tbk 2 (.mk ?_)
  exact lf h1 v239 leA
  replace h1 := ct h1
  refine tc tbk 3 (.mk ?_)
  refine ni tbk h1 fun x261 h1 => ?_
  refine tr tbk 1 (.mk ?_)
  refine sS ⟨28, 9, true, true, v235, [[int 10, int x261, int 0, int 0, int 0, int 0, int 0, int 0, .sl 5 v239 0 0]]⟩ sh3 ?_
  refine tr tbk 2 (.mk ?_)
  exact lf h1 v239 leA
  replace h1 := ct h1
  refine tc tbk 3 (.mk ?_)
  refine ni tbk h1 fun x262 h1 => ?_
  refine tr tbk 1 (.mk ?_)
  refine sS ⟨28, 9, true, true, v235, [[int x262, int 0, int 0, int 0, int 0, int 0, int 0, int 0, .sl 5 v239 0 0]]⟩ sh3 ?_
  refine tr tbk 2 (.mk ?_)
  exact lf h1 v239 leA
  replace h1 := ct h1
  refine tc tbk 3 (.mk ?_)
  refine ni tbk h1 fun x263 h1 => ?_
  refine tr tbk 1 (.mk ?_)
  refine sS ⟨28, 9, true, true, v235, [[int x263, int 0, int 0, int 0, int 0, int 0, int 0, int 0, .sl 5 v239 0 0]]⟩ sh3 ?_
  refine tr tbk 2 (.mk ?_)
  exact lf h1 v239 leA
  rintro ⟨y0_1, y0_2, y0_3, y0_4, y0_5, y0_6, y0_7, y0_8, y0_10⟩ w0_9 h0
  replace h0 := p2_e h0
  replace h0 := p2_e h0
  replace h0 := p2_e h0
  replace h0 := p2_e h0
  replace h0 := p2_e h0
  replace h0 := p2_e h0
  replace h0 := p2_e h0
  replace h0 := p2_e h0
  refine tc tbk 1 (.mk ?_)
  refine jn h0 [] [] (fun (a : Bool) (k : Unit) => [(6, boo a)]) (fun a k => []) ⟨fun j264 h1 => ?_, ?_⟩
  refine tc tbk 2 (.mk ?_)
  obtain ⟨x265, e265, h1⟩ := bind_e h1
  refine sY (yv_callT (v := boo x265) rfl rfl (.cons rfl .nil) cal8 (.cons (CvL.agg (.cons (.refl _) (.cons (.refl _) (.cons (.refl _) (.cons (.refl _) (.cons (.refl _) (.cons (.refl _) (.cons (.refl _) (.cons (.refl _) (.cons (cv_lst rfl rfl rfl rfl rfl (Eq.symm rfl)) .nil)))))))))) .nil) (d_ops_Check_c e265) rfl) ?_
  refine nb tbk h1 fun x266 h1 => ?_
  refine tr tbk 1 (.mk ?_)
  cases x266
  replace h1 := cf h1
  refine tr tbk 10 (.mk ?_)
  exact lf h1 () leA
  replace h1 := ct h1
  refine tr tbk 1 (.mk ?_)
  refine sY (yv_buildSlice (ps := [(0, _)]) (rows := [[int y0_1, int y0_2, int y0_3, int y0_4, int y0_5, int y0_6, int y0_7, int y0_8, .sl 5 w0_9 0 y0_10.length]]) rfl Try.underlying22 bz28 (.cons rfl .nil) (by kernel_rfl) rfl rfl rfl) ?_
  obtain ⟨x267, e267, h1⟩ := bind_e h1
  refine sY (yv_callT (v := str x267) rfl rfl (.cons rfl .nil) cal14 (.cons (CvLL.list (.cons (.cons (.refl _) (.cons (.refl _) (.cons (.refl _) (.cons (.refl _) (.cons (.refl _) (.cons (.refl _) (.cons (.refl _) (.cons (.refl _) (.cons (cv_lst rfl rfl rfl rfl rfl (Eq.symm rfl)) .nil))))))))) .nil)) .nil) (d_ops_Bytes_c e267) rfl) ?_
  obtain ⟨x268, e268, h1⟩ := bnd_e h1
  refine sY (yv_to (y := boo x268) (yv_seql rfl rfl rfl) (congrArg boo e268)) ?_
  refine tr tbk 2 (.mk ?_)
  cases x268
  replace h1 := cf h1
  refine tr tbk 4 (.mk ?_)
  exact lf h1 () leA
  replace h1 := ct h1
  obtain ⟨x269, e269, h1⟩ := bind_e h1
  refine sC cal7 (d_law05_awake_c e269) ?_
  refine tr tbk 3 (.mk ?_)
  exact lf h1 () leA
  rintro y1_1 _ h0
  obtain rfl := nxt_e h0
  refine wR hret (rT .nil) ?_
  exact .refl _
  replace h0 := ct h0
  refine rsas 35 (int 9) rfl (congrArg int (of_decide_eq_true e18)) ?_
  refine sY (yv_indexA rfl Try.underlying43 sh28 rfl rfl (by decide) rfl) ?_
  refine sA 2 z28 fun v270 => ?_
  refine sS ⟨28, 9, true, true, v270, [[int 9, int 0, int 0, int 0, int 0, int 0, int 0, int 0, .sc (.slice none 0 0)]]⟩ sh28 ?_
  refine tr tbk 5 (.mk ?_)
  obtain ⟨x271, e271, h0⟩ := bind_e h0
  refine sY (yv_callP rfl rfl (.cons rfl .nil) cal8 (.cons (CvL.agg (.cons (.refl _) (.cons (.refl _) (.cons (.refl _) (.cons (.refl _) (.cons (.refl _) (.cons (.refl _) (.cons (.refl _) (.cons (.refl _) (.cons (.nil _) .nil)))))))))) .nil) (d_ops_Check_c e271)) ?_
  refine nb tbk h0 fun x272 h0 => ?_
  refine tr tbk 1 (.mk ?_)
  replace h0 := asrt_e h0
  obtain ⟨rfl, h0⟩ := h0
  refine tc tbk 6 (.mk ?_)
  obtain ⟨x273, e273, h0⟩ := bind_e h0
  refine sC cal19 (d_law00_Place_c e273) ?_
  refine tr tbk 1 (.mk ?_)
  refine c_nilcell 2 0 8 5 3 1 (rows := fun v274 => [[int 9, int 0, int 0, int 0, int 0, int 0, int 0, int 0, .sl 5 v274 0 0]]) rfl rfl rfl rfl (fun _ => rfl) ?_; intro v274
  refine jn h0 [6, 9] [] (fun (a : Int × Int × Int × Int × Int × Int × Int × Int × (List Int)) (k : Nat) => []) (fun a k => [(2, ⟨28, 9, true, true, v270, [[int a.1, int a.2.1, int a.2.2.1, int a.2.2.2.1, int a.2.2.2.2.1, int a.2.2.2.2.2.1, int a.2.2.2.2.2.2.1, int a.2.2.2.2.2.2.2.1, .sl 5 k 0 a.2.2.2.2.2.2.2.2.length]]⟩), (5, ⟨3, 1, true, true, k, a.2.2.2.2.2.2.2.2.map fI⟩)]) ⟨fun j275 h1 => ?_, ?_⟩
  refine tc tbk 3 (.mk ?_)
  refine nb tbk h1 fun x276 h1 => ?_
  refine tr tbk 2 (.mk ?_)
  cases x276
  replace h1 := cf h1
  refine tc tbk 3 (.mk ?_)
  refine nb tbk h1 fun x277 h1 => ?_
  refine tr tbk 2 (.mk ?_)
  cases x277
  replace h1 := cf h1
  refine tc tbk 3 (.mk ?_)
  refine nb tbk h1 fun x278 h1 => ?_
  refine tr tbk 2 (.mk ?_)
  cases x278
  replace h1 := cf h1
  refine tc tbk 3 (.mk ?_)
  refine nb tbk h1 fun x279 h1 => ?_
  refine tr tbk 2 (.mk ?_)
  cases x279
  replace h1 := cf h1
  refine tc tbk 3 (.mk ?_)
  refine nb tbk h1 fun x280 h1 => ?_
  refine tr tbk 2 (.mk ?_)
  cases x280
  replace h1 := cf h1
  refine tc tbk 3 (.mk ?_)
  refine nb tbk h1 fun x281 h1 => ?_
  refine tr tbk 2 (.mk ?_)
  cases x281
  replace h1 := cf h1
  refine tc tbk 3 (.mk ?_)
  refine nb tbk h1 fun x282 h1 => ?_
  refine tr tbk 2 (.mk ?_)
  cases x282
  replace h1 := cf h1
  refine tc tbk 3 (.mk ?_)
  refine nb tbk h1 fun x283 h1 => ?_
  refine tr tbk 2 (.mk ?_)
  cases x283
  replace h1 := cf h1
  refine tc tbk 3 (.mk ?_)
  refine nb tbk h1 fun x284 h1 => ?_
  refine tr tbk 2 (.mk ?_)
  cases x284
  replace h1 := cf h1
  refine tc tbk 5 (.mk ?_)
  refine ni tbk h1 fun x285 h1 => ?_
  refine rse rfl rfl rfl (yl_buildO (ps := [(0, _)]) 3 [[int x285]] .any rfl Try.underlying26 bz3 (.cons rfl .nil) (by kernel_rfl) rfl rfl rfl) ?_; rintro _ _ ⟨v286, -, rfl, rfl⟩
  obtain ⟨x287, e287, h1⟩ := bnd_e h1
  obtain ⟨p288, h1⟩ := asrt_e h1
  refine rse rfl rfl rfl (Yield.frz 3 rfl (yl_appT (g := fI) (l := ([] : List Int)) (m := ([x285] : List Int)) .any rfl Try.underlying26 bz3 by3 rfl rfl rfl rfl rfl rfl rfl rfl rfl rfl (Eq.symm rfl) (cv_lst rfl rfl rfl rfl rfl (Eq.symm rfl)) (fun _ => rfl) e287 p288)) ?_; rintro _ _ ⟨v289, -, rfl, rfl⟩
  refine tr tbk 1 (.mk ?_)
  refine sS ⟨28, 9, true, true, v270, [[int 9, int 0, int 0, int 0, int 0, int 0, int 0, int 0, .sl 5 v289 0 x287.length]]⟩ sh26 ?_
  refine tr tbk 2 (.mk ?_)
  exact lf h1 v289 leA
  replace h1 := ct h1
  refine tc tbk 3 (.mk ?_)
  refine ni tbk h1 fun x290 h1 => ?_
  refine tr tbk 1 (.mk ?_)
  refine sS ⟨28, 9, true, true, v270, [[int 9, int 0, int 0, int 0, int 0, int 0, int 0, int x290, .sl 5 v274 0 0]]⟩ sh3 ?_
  refine tr tbk 2 (.mk ?_)
  exact lf h1 v274 leA
  replace h1 := ct h1
  refine tc tbk 3 (.mk ?_)
  refine ni tbk h1 fun x291 h1 => ?_
  refine tr tbk 1 (.mk ?_)
  refine sS ⟨28, 9, true, true, v270, [[int 9, int 0, int 0, int 0, int 0, int 0, int x291, int 0, .sl 5 v274 0 0]]⟩ sh3 ?_
  refine tr tbk 2 (.mk ?_)
  exact lf h1 v274 leA
  replace h1 := ct h1
  refine tc tbk 3 (.mk ?_)
  refine ni tbk h1 fun x292 h1 => ?_
  refine tr tbk 1 (.mk ?_)
  refine sS ⟨28, 9, true, true, v270, [[int 9, int 0, int 0, int 0, int 0, int x292, int 0, int 0, .sl 5 v274 0 0]]⟩ sh3 ?_
  refine tr tbk 2 (.mk ?_)
  exact lf h1 v274 leA
  replace h1 := ct h1
  refine tc tbk 3 (.mk ?_)
  refine ni tbk h1 fun x293 h1 => ?_
  refine tr tbk 1 (.mk ?_)
  refine sS ⟨28, 9, true, true, v270, [[int 9, int 0, int 0, int 0, int x293, int 0, int 0, int 0, .sl 5 v274 0 0]]⟩ sh3 ?_
  refine tr tbk 2 (.mk ?_)
  exact lf h1 v274 leA
  replace h1 := ct h1
  refine tc tbk 3 (.mk ?_)
  refine ni tbk h1 fun x294 h1 => ?_
  refine tr tbk 1 (.mk ?_)
  refine sS ⟨28, 9, true, true, v270, [[int 9, int 0, int 0, int x294, int 0, int 0, int 0, int 0, .sl 5 v274 0 0]]⟩ sh3 ?_
  refine tr tbk 2 (.mk ?_)
  exact lf h1 v274 leA
  replace h1 := ct h1
  refine tc tbk 3 (.mk ?_)
  refine ni tbk h1 fun x295 h1 => ?_
  refine tr tbk 1 (.mk ?_)
  refine sS ⟨28, 9, true, true, v270, [[int 9, int 0, int x295, int 0, int 0, int 0, int 0, int 0, .sl 5 v274 0 0]]⟩ sh3 ?_
  refine tr tbk 2 (.mk ?_)
  exact lf h1 v274 leA
  replace h1 := ct h1
  refine tc tbk 3 (.mk ?_)
  refine ni tbk h1 fun x296 h1 => ?_
  refine tr tbk 1 (.mk ?_)
  refine sS ⟨28, 9, true, true, v270, [[int 9, int x296, int 0, int 0, int 0, int 0, int 0, int 0, .sl 5 v274 0 0]]⟩ sh3 ?_
  refine tr tbk 2 (.mk ?_)
  exact lf h1 v274 leA
  replace h1 := ct h1
  refine tc tbk 3 (.mk ?_)
  refine ni tbk h1 fun x297 h1 => ?_
  refine tr tbk 1 (.mk ?_)
  refine sS ⟨28, 9, true, true, v270, [[int x297, int 0, int 0, int 0, int 0, int 0, int 0, int 0, .sl 5 v274 0 0]]⟩ sh3 ?_
  refine tr tbk 2 (.mk ?_)
  exact lf h1 v274 leA
  replace h1 := ct h1
  refine tc tbk 3 (.mk ?_)
  refine ni tbk h1 fun x298 h1 => ?_
  refine tr tbk 1 (.mk ?_)
  refine sS ⟨28, 9, true, true, v270, [[int x298, int 0, int 0, int 0, int 0, int 0, int 0, int 0, .sl 5 v274 0 0]]⟩ sh3 ?_
  refine tr tbk 2 (.mk ?_)
  exact lf h1 v274 leA
  rintro ⟨y0_1, y0_2, y0_3, y0_4, y0_5, y0_6, y0_7, y0_8, y0_10⟩ w0_9 h0
  replace h0 := p2_e h0
  replace h0 := p2_e h0
  replace h0 := p2_e h0
  replace h0 := p2_e h0
  replace h0 := p2_e h0
  replace h0 := p2_e h0
  replace h0 := p2_e h0
  replace h0 := p2_e h0
  refine tc tbk 1 (.mk ?_)
  refine jn h0 [] [] (fun (a : Bool) (k : Unit) => [(6, boo a)]) (fun a k => []) ⟨fun j299 h1 => ?_, ?_⟩
  refine tc tbk 2 (.mk ?_)
  obtain ⟨x300, e300, h1⟩ := bind_e h1
  refine sY (yv_callT (v := boo x300) rfl rfl (.cons rfl .nil) cal8 (.cons (CvL.agg (.cons (.refl _) (.cons (.refl _) (.cons (.refl _) (.cons (.refl _) (.cons (.refl _) (.cons (.refl _) (.cons (.refl _) (.cons (.refl _) (.cons (cv_lst rfl rfl rfl rfl rfl (Eq.symm rfl)) .nil)))))))))) .nil) (d_ops_Check_c e300) rfl) ?_
  refine nb tbk h1 fun x301 h1 => ?_
  refine tr tbk 1 (.mk ?_)
  cases x301
  replace h1 := cf h1
  refine tr tbk 10 (.mk ?_)
  exact lf h1 () leA
  replace h1 := ct h1
  refine tr tbk 1 (.mk ?_)
  refine sY (yv_buildSlice (ps := [(0, _)]) (rows := [[int y0_1, int y0_2, int y0_3, int y0_4, int y0_5, int y0_6, int y0_7, int y0_8, .sl 5 w0_9 0 y0_10.length]]) rfl Try.underlying22 bz28 (.cons rfl .nil) (by kernel_rfl) rfl rfl rfl) ?_
  obtain ⟨x302, e302, h1⟩ := bind_e h1
  refine sY (yv_callT (v := str x302) rfl rfl (.cons rfl .nil) cal14 (.cons (CvLL.list (.cons (.cons (.refl _) (.cons (.refl _) (.cons (.refl _) (.cons (.refl _) (.cons (.refl _) (.cons (.refl _) (.cons (.refl _) (.cons (.refl _) (.cons (cv_lst rfl rfl rfl rfl rfl (Eq.symm rfl)) .nil))))))))) .nil)) .nil) (d_ops_Bytes_c e302) rfl) ?_
  obtain ⟨x303, e303, h1⟩ := bnd_e h1
  refine sY (yv_to (y := boo x303) (yv_seql rfl rfl rfl) (congrArg boo e303)) ?_
  refine tr tbk 2 (.mk ?_)
  cases x303
  replace h1 := cf h1
  refine tr tbk 4 (.mk ?_)
  exact lf h1 () leA
  replace h1 := ct h1
  obtain ⟨x304, e304, h1⟩ := bind_e h1
  refine sC cal7 (d_law05_awake_c e304) ?_
  refine tr tbk 3 (.mk ?_)
  exact lf h1 () leA
  rintro y1_1 _ h0
  obtain rfl := nxt_e h0
  refine wR hret (rT .nil) ?_
  exact .refl _
  replace h0 := ct h0
  refine rsas 35 (int 8) rfl (congrArg int (of_decide_eq_true e17)) ?_
  refine sY (yv_indexA rfl Try.underlying43 sh28 rfl rfl (by decide) rfl) ?_
  refine sA 2 z28 fun v305 => ?_
  refine sS ⟨28, 9, true, true, v305, [[int 8, int 0, int 0, int 0, int 1, int 1, int 0, int 0, .sc (.slice none 0 0)]]⟩ sh28 ?_
  refine tr tbk 5 (.mk ?_)
  obtain ⟨x306, e306, h0⟩ := bind_e h0
  refine sY (yv_callP rfl rfl (.cons rfl .nil) cal8 (.cons (CvL.agg (.cons (.refl _) (.cons (.refl _) (.cons (.refl _) (.cons (.refl _) (.cons (.refl _) (.cons (.refl _) (.cons (.refl _) (.cons (.refl _) (.cons (.nil _) .nil)))))))))) .nil) (d_ops_Check_c e306)) ?_
  refine nb tbk h0 fun x307 h0 => ?_
  refine tr tbk 1 (.mk ?_)
  replace h0 := asrt_e h0
  obtain ⟨rfl, h0⟩ := h0
  refine tc tbk 6 (.mk ?_)
  obtain ⟨x308, e308, h0⟩ := bind_e h0
  refine sC cal19 (d_law00_Place_c e308) ?_
  refine tr tbk 1 (.mk ?_)
  refine c_nilcell 2 0 8 5 3 1 (rows := fun v309 => [[int 8, int 0, int 0, int 0, int 1, int 1, int 0, int 0, .sl 5 v309 0 0]]) rfl rfl rfl rfl (fun _ => rfl) ?_; intro v309
  refine jn h0 [6, 9] [] (fun (a : Int × Int × Int × Int × Int × Int × Int × Int × (List Int)) (k : Nat) => []) (fun a k => [(2, ⟨28, 9, true, true, v305, [[int a.1, int a.2.1, int a.2.2.1, int a.2.2.2.1, int a.2.2.2.2.1, int a.2.2.2.2.2.1, int a.2.2.2.2.2.2.1, int a.2.2.2.2.2.2.2.1, .sl 5 k 0 a.2.2.2.2.2.2.2.2.length]]⟩), (5, ⟨3, 1, true, true, k, a.2.2.2.2.2.2.2.2.map fI⟩)]) ⟨fun j310 h1 => ?_, ?_⟩
  refine tc tbk 3 (.mk ?_)
  refine nb tbk h1 fun x311 h1 => ?_
  refine tr tbk 2 (.mk ?_)
  cases x311
  replace h1 := cf h1
  refine tc tbk 3 (.mk ?_)
  refine nb tbk h1 fun x312 h1 => ?_
  refine tr tbk 2 (.mk ?_)
  cases x312
  replace h1 := cf h1
  refine tc tbk 3 (.mk ?_)
  refine nb tbk h1 fun x313 h1 => ?_
  refine tr tbk 2 (.mk ?_)
  cases x313
  replace h1 := cf h1
  refine tc tbk 3 (.mk ?_)
  refine nb tbk h1 fun x314 h1 => ?_
  refine tr tbk 2 (.mk ?_)
  cases x314
  replace h1 := cf h1
  refine tc tbk 3 (.mk ?_)
  refine nb tbk h1 fun x315 h1 => ?_
  refine tr tbk 2 (.mk ?_)
  cases x315
  replace h1 := cf h1
  refine tc tbk 3 (.mk ?_)
  refine nb tbk h1 fun x316 h1 => ?_
  refine tr tbk 2 (.mk ?_)
  cases x316
  replace h1 := cf h1
  refine tc tbk 3 (.mk ?_)
  refine nb tbk h1 fun x317 h1 => ?_
  refine tr tbk 2 (.mk ?_)
  cases x317
  replace h1 := cf h1
  refine tc tbk 3 (.mk ?_)
  refine nb tbk h1 fun x318 h1 => ?_
  refine tr tbk 2 (.mk ?_)
  cases x318
  replace h1 := cf h1
  refine tc tbk 3 (.mk ?_)
  refine nb tbk h1 fun x319 h1 => ?_
  refine tr tbk 2 (.mk ?_)
  cases x319
  replace h1 := cf h1
  refine tc tbk 5 (.mk ?_)
  refine ni tbk h1 fun x320 h1 => ?_
  refine rse rfl rfl rfl (yl_buildO (ps := [(0, _)]) 3 [[int x320]] .any rfl Try.underlying26 bz3 (.cons rfl .nil) (by kernel_rfl) rfl rfl rfl) ?_; rintro _ _ ⟨v321, -, rfl, rfl⟩
  obtain ⟨x322, e322, h1⟩ := bnd_e h1
  obtain ⟨p323, h1⟩ := asrt_e h1
  refine rse rfl rfl rfl (Yield.frz 3 rfl (yl_appT (g := fI) (l := ([] : List Int)) (m := ([x320] : List Int)) .any rfl Try.underlying26 bz3 by3 rfl rfl rfl rfl rfl rfl rfl rfl rfl rfl (Eq.symm rfl) (cv_lst rfl rfl rfl rfl rfl (Eq.symm rfl)) (fun _ => rfl) e322 p323)) ?_; rintro _ _ ⟨v324, -, rfl, rfl⟩
  refine tr tbk 1 (.mk ?_)
  refine sS ⟨28, 9, true, true, v305, [[int 8, int 0, int 0, int 0, int 1, int 1, int 0, int 0, .sl 5 v324 0 x322.length]]⟩ sh26 ?_
  refine tr tbk 2 (.mk ?_)
  exact lf h1 v324 leA
  replace h1 := ct h1
  refine tc tbk 3 (.mk ?_)
  refine ni tbk h1 fun x325 h1 => ?_
  refine tr tbk 1 (.mk ?_)
  refine sS ⟨28, 9, true, true, v305, [[int 8, int 0, int 0, int 0, int 1, int 1, int 0, int x325, .sl 5 v309 0 0]]⟩ sh3 ?_
  refine tr tbk 2 (.mk ?_)
  exact lf h1 v309 leA
  replace h1 := ct h1
  refine tc tbk 3 (.mk ?_)
  refine ni tbk h1 fun x326 h1 => ?_
  refine tr tbk 1 (.mk ?_)
  refine sS ⟨28, 9, true, true, v305, [[int 8, int 0, int 0, int 0, int 1, int 1, int x326, int 0, .sl 5 v309 0 0]]⟩ sh3 ?_
  refine tr tbk 2 (.mk ?_)
  exact lf h1 v309 leA
  replace h1 := ct h1
  refine tc tbk 3 (.mk ?_)
  refine ni tbk h1 fun x327 h1 => ?_
  refine tr tbk 1 (.mk ?_)
  refine sS ⟨28, 9, true, true, v305, [[int 8, int 0, int 0, int 0, int 1, int x327, int 0, int 0, .sl 5 v309 0 0]]⟩ sh3 ?_
  refine tr tbk 2 (.mk ?_)
  exact lf h1 v309 leA
  replace h1 := ct h1
  refine tc tbk 3 (.mk ?_)
  refine ni tbk h1 fun x328 h1 => ?_
  refine tr tbk 1 (.mk ?_)
  refine sS ⟨28, 9, true, true, v305, [[int 8, int 0, int 0, int 0, int x328, int 1, int 0, int 0, .sl 5 v309 0 0]]⟩ sh3 ?_
  refine tr tbk 2 (.mk ?_)
  exact lf h1 v309 leA
  replace h1 := ct h1
  refine tc tbk 3 (.mk ?_)
  refine ni tbk h1 fun x329 h1 => ?_
  refine tr tbk 1 (.mk ?_)
  refine sS ⟨28, 9, true, true, v305, [[int 8, int 0, int 0, int x329, int 1, int 1, int 0, int 0, .sl 5 v309 0 0]]⟩ sh3 ?_
  refine tr tbk 2 (.mk ?_)
  exact lf h1 v309 leA
  replace h1 := ct h1
  refine tc tbk 3 (.mk ?_)
  refine ni tbk h1 fun x330 h1 => ?_
  refine tr tbk 1 (.mk ?_)
  refine sS ⟨28, 9, true, true, v305, [[int 8, int 0, int x330, int 0, int 1, int 1, int 0, int 0, .sl 5 v309 0 0]]⟩ sh3 ?_
  refine tr tbk 2 (.mk ?_)
  exact lf h1 v309 leA
  replace h1 := ct h1
  refine tc tbk 3 (.mk ?_)
  refine ni tbk h1 fun x331 h1 => ?_
  refine tr tbk 1 (.mk ?_)
  refine sS ⟨28, 9, true, true, v305, [[int 8, int x331, int 0, int 0, int 1, int 1, int 0, int 0, .sl 5 v309 0 0]]⟩ sh3 ?_
  refine tr tbk 2 (.mk ?_)
  exact lf h1 v309 leA
  replace h1 := ct h1
  refine tc tbk 3 (.mk ?_)
  refine ni tbk h1 fun x332 h1 => ?_
  refine tr tbk 1 (.mk ?_)
  refine sS ⟨28, 9, true, true, v305, [[int x332, int 0, int 0, int 0, int 1, int 1, int 0, int 0, .sl 5 v309 0 0]]⟩ sh3 ?_
  refine tr tbk 2 (.mk ?_)
  exact lf h1 v309 leA
  replace h1 := ct h1
  refine tc tbk 3 (.mk ?_)
  refine ni tbk h1 fun x333 h1 => ?_
  refine tr tbk 1 (.mk ?_)
  refine sS ⟨28, 9, true, true, v305, [[int x333, int 0, int 0, int 0, int 1, int 1, int 0, int 0, .sl 5 v309 0 0]]⟩ sh3 ?_
  refine tr tbk 2 (.mk ?_)
  exact lf h1 v309 leA
  rintro ⟨y0_1, y0_2, y0_3, y0_4, y0_5, y0_6, y0_7, y0_8, y0_10⟩ w0_9 h0
  replace h0 := p2_e h0
  replace h0 := p2_e h0
  replace h0 := p2_e h0
  replace h0 := p2_e h0
  replace h0 := p2_e h0
  replace h0 := p2_e h0
  replace h0 := p2_e h0
  replace h0 := p2_e h0
  refine tc tbk 1 (.mk ?_)
  refine jn h0 [] [] (fun (a : Bool) (k : Unit) => [(6, boo a)]) (fun a k => []) ⟨fun j334 h1 => ?_, ?_⟩
  refine tc tbk 2 (.mk ?_)
  obtain ⟨x335, e335, h1⟩ := bind_e h1
  refine sY (yv_callT (v := boo x335) rfl rfl (.cons rfl .nil) cal8 (.cons (CvL.agg (.cons (.refl _) (.cons (.refl _) (.cons (.refl _) (.cons (.refl _) (.cons (.refl _) (.cons (.refl _) (.cons (.refl _) (.cons (.refl _) (.cons (cv_lst rfl rfl rfl rfl rfl (Eq.symm rfl)) .nil)))))))))) .nil) (d_ops_Check_c e335) rfl) ?_
  refine nb tbk h1 fun x336 h1 => ?_
  refine tr tbk 1 (.mk ?_)
  cases x336
  replace h1 := cf h1
  refine tr tbk 10 (.mk ?_)
  exact lf h1 () leA
  replace h1 := ct h1
  refine tr tbk 1 (.mk ?_)
  refine sY (yv_buildSlice (ps := [(0, _)]) (rows := [[int y0_1, int y0_2, int y0_3, int y0_4, int y0_5, int y0_6, int y0_7, int y0_8, .sl 5 w0_9 0 y0_10.length]]) rfl Try.underlying22 bz28 (.cons rfl .nil) (by kernel_rfl) rfl rfl rfl) ?_
  obtain ⟨x337, e337, h1⟩ := bind_e h1
  refine sY (yv_callT (v := str x337) rfl rfl (.cons rfl .nil) cal14 (.cons (CvLL.list (.cons (.cons (.refl _) (.cons (.refl _) (.cons (.refl _) (.cons (.refl _) (.cons (.refl _) (.cons (.refl _) (.cons (.refl _) (.cons (.refl _) (.cons (cv_lst rfl rfl rfl rfl rfl (Eq.symm rfl)) .nil))))))))) .nil)) .nil) (d_ops_Bytes_c e337) rfl) ?_
  obtain ⟨x338, e338, h1⟩ := bnd_e h1
  refine sY (yv_to (y := boo x338) (yv_seql rfl rfl rfl) (congrArg boo e338)) ?_
  refine tr tbk 2 (.mk ?_)
  cases x338
  replace h1 := cf h1
  refine tr tbk 4 (.mk ?_)
  exact lf h1 () leA
  replace h1 := ct h1
  obtain ⟨x339, e339, h1⟩ := bind_e h1
  refine sC cal7 (d_law05_awake_c e339) ?_
  refine tr tbk 3 (.mk ?_)
  exact lf h1 () leA
  rintro y1_1 _ h0
  obtain rfl := nxt_e h0
  refine wR hret (rT .nil) ?_
  exact .refl _
  replace h0 := ct h0
  refine rsas 35 (int 7) rfl (congrArg int (of_decide_eq_true e16)) ?_
  refine sY (yv_indexA rfl Try.underlying43 sh28 rfl rfl (by decide) rfl) ?_
  refine sA 2 z28 fun v340 => ?_
  refine sS ⟨28, 9, true, true, v340, [[int 7, int 0, int 0, int 0, int 0, int 0, int 0, int 0, .sc (.slice none 0 0)]]⟩ sh28 ?_
  refine tr tbk 5 (.mk ?_)
  obtain ⟨x341, e341, h0⟩ := bind_e h0
  refine sY (yv_callP rfl rfl (.cons rfl .nil) cal8 (.cons (CvL.agg (.cons (.refl _) (.cons (.refl _) (.cons (.refl _) (.cons (.refl _) (.cons (.refl _) (.cons (.refl _) (.cons (.refl _) (.cons (.refl _) (.cons (.nil _) .nil)))))))))) .nil) (d_ops_Check_c e341)) ?_
  refine nb tbk h0 fun x342 h0 => ?_
  refine tr tbk 1 (.mk ?_)
  replace h0 := asrt_e h0
  obtain ⟨rfl, h0⟩ := h0
  refine tc tbk 6 (.mk ?_)
  obtain ⟨x343, e343, h0⟩ := bind_e h0
  refine sC cal19 (d_law00_Place_c e343) ?_
  refine tr tbk 1 (.mk ?_)
  refine c_nilcell 2 0 8 5 3 1 (rows := fun v344 => [[int 7, int 0, int 0, int 0, int 0, int 0, int 0, int 0, .sl 5 v344 0 0]]) rfl rfl rfl rfl (fun _ => rfl) ?_; intro v344
  refine jn h0 [6, 9] [] (fun (a : Int × Int × Int × Int × Int × Int × Int × Int × (List Int)) (k : Nat) => []) (fun a k => [(2, ⟨28, 9, true, true, v340, [[int a.1, int a.2.1, int a.2.2.1, int a.2.2.2.1, int a.2.2.2.2.1, int a.2.2.2.2.2.1, int a.2.2.2.2.2.2.1, int a.2.2.2.2.2.2.2.1, .sl 5 k 0 a.2.2.2.2.2.2.2.2.length]]⟩), (5, ⟨3, 1, true, true, k, a.2.2.2.2.2.2.2.2.map fI⟩)]) ⟨fun j345 h1 => ?_, ?_⟩
  refine tc tbk 3 (.mk ?_)
  refine nb tbk h1 fun x346 h1 => ?_
  refine tr tbk 2 (.mk ?_)
  cases x346
  replace h1 := cf h1
  refine tc tbk 3 (.mk ?_)
  refine nb tbk h1 fun x347 h1 => ?_
  refine tr tbk 2 (.mk ?_)
  cases x347
  replace h1 := cf h1
  refine tc tbk 3 (.mk ?_)
  refine nb tbk h1 fun x348 h1 => ?_
  refine tr tbk 2 (.mk ?_)
  cases x348
  replace h1 := cf h1
  refine tc tbk 3 (.mk ?_)
  refine nb tbk h1 fun x349 h1 => ?_
  refine tr tbk 2 (.mk ?_)
  cases x349
  replace h1 := cf h1
  refine tc tbk 3 (.mk ?_)
  refine nb tbk h1 fun x350 h1 => ?_
  refine tr tbk 2 (.mk ?_)
  cases x350
  replace h1 := cf h1
  refine tc tbk 3 (.mk ?_)
  refine nb tbk h1 fun x351 h1 => ?_
  refine tr tbk 2 (.mk ?_)
  cases x351
  replace h1 := cf h1
  refine tc tbk 3 (.mk ?_)
  refine nb tbk h1 fun x352 h1 => ?_
  refine tr tbk 2 (.mk ?_)
  cases x352
  replace h1 := cf h1
  refine tc tbk 3 (.mk ?_)
  refine nb tbk h1 fun x353 h1 => ?_
  refine tr tbk 2 (.mk ?_)
  cases x353
  replace h1 := cf h1
  refine tc tbk 3 (.mk ?_)
  refine nb tbk h1 fun x354 h1 => ?_
  refine tr tbk 2 (.mk ?_)
  cases x354
  replace h1 := cf h1
  refine tc tbk 5 (.mk ?_)
  refine ni tbk h1 fun x355 h1 => ?_
  refine rse rfl rfl rfl (yl_buildO (ps := [(0, _)]) 3 [[int x355]] .any rfl Try.underlying26 bz3 (.cons rfl .nil) (by kernel_rfl) rfl rfl rfl) ?_; rintro _ _ ⟨v356, -, rfl, rfl⟩
  obtain ⟨x357, e357, h1⟩ := bnd_e h1
  obtain ⟨p358, h1⟩ := asrt_e h1
  refine rse rfl rfl rfl (Yield.frz 3 rfl (yl_appT (g := fI) (l := ([] : List Int)) (m := ([x355] : List Int)) .any rfl Try.underlying26 bz3 by3 rfl rfl rfl rfl rfl rfl rfl rfl rfl rfl (Eq.symm rfl) (cv_lst rfl rfl rfl rfl rfl (Eq.symm rfl)) (fun _ => rfl) e357 p358)) ?_; rintro _ _ ⟨v359, -, rfl, rfl⟩
  refine tr tbk 1 (.mk ?_)
  refine sS ⟨28, 9, true, true, v340, [[int 7, int 0, int 0, int 0, int 0, int 0, int 0, int 0, .sl 5 v359 0 x357.length]]⟩ sh26 ?_
  refine tr tbk 2 (.mk ?_)
  exact lf h1 v359 leA
  replace h1 := ct h1
  refine tc tbk 3 (.mk ?_)
  refine ni tbk h1 fun x360 h1 => ?_
  refine tr tbk 1 (.mk ?_)
  refine sS ⟨28, 9, true, true, v340, [[int 7, int 0, int 0, int 0, int 0, int 0, int 0, int x360, .sl 5 v344 0 0]]⟩ sh3 ?_
  refine tr tbk 2 (.mk ?_)
  exact lf h1 v344 leA
  replace h1 := ct h1
  refine tc tbk 3 (.mk ?_)
  refine ni tbk h1 fun x361 h1 => ?_
  refine tr tbk 1 (.mk ?_)
  refine sS ⟨28, 9, true, true, v340, [[int 7, int 0, int 0, int 0, int 0, int 0, int x361, int 0, .sl 5 v344 0 0]]⟩ sh3 ?_
  refine tr tbk 2 (.mk ?_)
  exact lf h1 v344 leA
  replace h1 := ct h1
  refine tc tbk 3 (.mk ?_)
  refine ni tbk h1 fun x362 h1 => ?_
  refine tr tbk 1 (.mk ?_)
  refine sS ⟨28, 9, true, true, v340, [[int 7, int 0, int 0, int 0, int 0, int x362, int 0, int 0, .sl 5 v344 0 0]]⟩ sh3 ?_
  refine tr tbk 2 (.mk ?_)
  exact lf h1 v344 leA
  replace h1 := ct h1
  refine tc tbk 3 (.mk ?_)
  refine ni tbk h1 fun x363 h1 => ?_
  refine tr tbk 1 (.mk ?_)
  refine sS ⟨28, 9, true, true, v340, [[int 7, int 0, int 0, int 0, int x363, int 0, int 0, int 0, .sl 5 v344 0 0]]⟩ sh3 ?_
  refine tr tbk 2 (.mk ?_)
  exact lf h1 v344 leA
  replace h1 := ct h1
  refine tc tbk 3 (.mk ?_)
  refine ni tbk h1 fun x364 h1 => ?_
  refine tr tbk 1 (.mk ?_)
  refine sS ⟨28, 9, true, true, v340, [[int 7, int 0, int 0, int x364, int 0, int 0, int 0, int 0, .sl 5 v344 0 0]]⟩ sh3 ?_
  refine tr tbk 2 (.mk ?_)
  exact lf h1 v344 leA
  replace h1 := ct h1
  refine tc tbk 3 (.mk ?_)
  refine ni tbk h1 fun x365 h1 => ?_
  refine tr tbk 1 (.mk ?_)
  refine sS ⟨28, 9, true, true, v340, [[int 7, int 0, int x365, int 0, int 0, int 0, int 0, int 0, .sl 5 v344 0 0]]⟩ sh3 ?_
  refine tr tbk 2 (.mk ?_)
  exact lf h1 v344 leA
  replace h1 := ct h1
  refine tc tbk 3 (.mk ?_)
  refine ni tbk h1 fun x366 h1 => ?_
  refine tr tbk 1 (.mk ?_)
  refine sS ⟨28, 9, true, true, v340, [[int 7, int x366, int 0, int 0, int 0, int 0, int 0, int 0, .sl 5 v344 0 0]]⟩ sh3 ?_
  refine tr tbk 2 (.mk ?_)
  exact lf h1 v344 leA
  replace h1 := ct h1
  refine tc tbk 3 (.mk ?_)
  refine ni tbk h1 fun x367 h1 => ?_
  refine tr tbk 1 (.mk ?_)
  refine sS ⟨28, 9, true, true, v340, [[int x367, int 0, int 0, int 0, int 0, int 0, int 0, int 0, .sl 5 v344 0 0]]⟩ sh3 ?_
  refine tr tbk 2 (.mk ?_)
  exact lf h1 v344 leA
  replace h1 := ct h1
  refine tc tbk 3 (.mk ?_)
  refine ni tbk h1 fun x368 h1 => ?_
  refine tr tbk 1 (.mk ?_)
  refine sS ⟨28, 9, true, true, v340, [[int x368, int 0, int 0, int 0, int 0, int 0, int 0, int 0, .sl 5 v344 0 0]]⟩ sh3 ?_
  refine tr tbk 2 (.mk ?_)
  exact lf h1 v344 leA
  rintro ⟨y0_1, y0_2, y0_3, y0_4, y0_5, y0_6, y0_7, y0_8, y0_10⟩ w0_9 h0
  replace h0 := p2_e h0
  replace h0 := p2_e h0
  replace h0 := p2_e h0
  replace h0 := p2_e h0
  replace h0 := p2_e h0
  replace h0 := p2_e h0
  replace h0 := p2_e h0
  replace h0 := p2_e h0
  refine tc tbk 1 (.mk ?_)
  refine jn h0 [] [] (fun (a : Bool) (k : Unit) => [(6, boo a)]) (fun a k => []) ⟨fun j369 h1 => ?_, ?_⟩
  refine tc tbk 2 (.mk ?_)
  obtain ⟨x370, e370, h1⟩ := bind_e h1
  refine sY (yv_callT (v := boo x370) rfl rfl (.cons rfl .nil) cal8 (.cons (CvL.agg (.cons (.refl _) (.cons (.refl _) (.cons (.refl _) (.cons (.refl _) (.cons (.refl _) (.cons (.refl _) (.cons (.refl _) (.cons (.refl _) (.cons (cv_lst rfl rfl rfl rfl rfl (Eq.symm rfl)) .nil)))))))))) .nil) (d_ops_Check_c e370) rfl) ?_
  refine nb tbk h1 fun x371 h1 => ?_
  refine tr tbk 1 (.mk ?_)
  cases x371
  replace h1 := cf h1
  refine tr tbk 10 (.mk ?_)
  exact lf h1 () leA
  replace h1 := ct h1
  refine tr tbk 1 (.mk ?_)
  refine sY (yv_buildSlice (ps := [(0, _)]) (rows := [[int y0_1, int y0_2, int y0_3, int y0_4, int y0_5, int y0_6, int y0_7, int y0_8, .sl 5 w0_9 0 y0_10.length]]) rfl Try.underlying22 bz28 (.cons rfl .nil) (by kernel_rfl) rfl rfl rfl) ?_
  obtain ⟨x372, e372, h1⟩ := bind_e h1
  refine sY (yv_callT (v := str x372) rfl rfl (.cons rfl .nil) cal14 (.cons (CvLL.list (.cons (.cons (.refl _) (.cons (.refl _) (.cons (.refl _) (.cons (.refl _) (.cons (.refl _) (.cons (.refl _) (.cons (.refl _) (.cons (.refl _) (.cons (cv_lst rfl rfl rfl rfl rfl (Eq.symm rfl)) .nil))))))))) .nil)) .nil) (d_ops_Bytes_c e372) rfl) ?_
  obtain ⟨x373, e373, h1⟩ := bnd_e h1
  refine sY (yv_to (y := boo x373) (yv_seql rfl rfl rfl) (congrArg boo e373)) ?_
  refine tr tbk 2 (.mk ?_)
  cases x373
  replace h1 := cf h1
  refine tr tbk 4 (.mk ?_)
  exact lf h1 () leA
  replace h1 := ct h1
  obtain ⟨x374, e374, h1⟩ := bind_e h1
  refine sC cal7 (d_law05_awake_c e374) ?_
  refine tr tbk 3 (.mk ?_)
  exact lf h1 () leA
  rintro y1_1 _ h0
  obtain rfl := nxt_e h0
  refine wR hret (rT .nil) ?_
  exact .refl _
  replace h0 := ct h0
  refine rsas 35 (int 6) rfl (congrArg int (of_decide_eq_true e15)) ?_
  refine sY (yv_indexA rfl Try.underlying43 sh28 rfl rfl (by decide) rfl) ?_
  refine sA 2 z28 fun v375 => ?_
  refine sS ⟨28, 9, true, true, v375, [[int 6, int 0, int 0, int 0, int 0, int 1, int 0, int 0, .sc (.slice none 0 0)]]⟩ sh28 ?_
  refine tr tbk 5 (.mk ?_)
  obtain ⟨x376, e376, h0⟩ := bind_e h0
  refine sY (yv_callP rfl rfl (.cons rfl .nil) cal8 (.cons (CvL.agg (.cons (.refl _) (.cons (.refl _) (.cons (.refl _) (.cons (.refl _) (.cons (.refl _) (.cons (.refl _) (.cons (.refl _) (.cons (.refl _) (.cons (.nil _) .nil)))))))))) .nil) (d_ops_Check_c e376)) ?_
  refine nb tbk h0 fun x377 h0 => ?_
  refine tr tbk 1 (.mk ?_)
  replace h0 := asrt_e h0
  obtain ⟨rfl, h0⟩ := h0
  refine tc tbk 6 (.mk ?_)
  obtain ⟨x378, e378, h0⟩ := bind_e h0
  refine sC cal19 (d_law00_Place_c e378) ?_
  refine tr tbk 1 (.mk ?_)
  refine c_nilcell 2 0 8 5 3 1 (rows := fun v379 => [[int 6, int 0, int 0, int 0, int 0, int 1, int 0, int 0, .sl 5 v379 0 0]]) rfl rfl rfl rfl (fun _ => rfl) ?_; intro v379
  refine jn h0 [6, 9] [] (fun (a : Int × Int × Int × Int × Int × Int × Int × Int × (List Int)) (k : Nat) => []) (fun a k => [(2, ⟨28, 9, true, true, v375, [[int a.1, int a.2.1, int a.2.2.1, int a.2.2.2.1, int a.2.2.2.2.1, int a.2.2.2.2.2.1, int a.2.2.2.2.2.2.1, int a.2.2.2.2.2.2.2.1, .sl 5 k 0 a.2.2.2.2.2.2.2.2.length]]⟩), (5, ⟨3, 1, true, true, k, a.2.2.2.2.2.2.2.2.map fI⟩)]) ⟨fun j380 h1 => ?_, ?_⟩
  refine tc tbk 3 (.mk ?_)
  refine nb tbk h1 fun x381 h1 => ?_
  refine tr tbk 2 (.mk ?_)
  cases x381
  replace h1 := cf h1
  refine tc tbk 3 (.mk ?_)
  refine nb tbk h1 fun x382 h1 => ?_
  refine tr tbk 2 (.mk ?_)
  cases x382
  replace h1 := cf h1
  refine tc tbk 3 (.mk ?_)
  refine nb tbk h1 fun x383 h1 => ?_
  refine tr tbk 2 (.mk ?_)
  cases x383
  replace h1 := cf h1
  refine tc tbk 3 (.mk ?_)
  refine nb tbk h1 fun x384 h1 => ?_
  refine tr tbk 2 (.mk ?_)
  cases x384
  replace h1 := cf h1
  refine tc tbk 3 (.mk ?_)
  refine nb tbk h1 fun x385 h1 => ?_
  refine tr tbk 2 (.mk ?_)
  cases x385
  replace h1 := cf h1
  refine tc tbk 3 (.mk ?_)
  refine nb tbk h1 fun x386 h1 => ?_
  refine tr tbk 2 (.mk ?_)
  cases x386
  replace h1 := cf h1
  refine tc tbk 3 (.mk ?_)
  refine nb tbk h1 fun x387 h1 => ?_
  refine tr tbk 2 (.mk ?_)
  cases x387
  replace h1 := cf h1
  refine tc tbk 3 (.mk ?_)
  refine nb tbk h1 fun x388 h1 => ?_
  refine tr tbk 2 (.mk ?_)
  cases x388
  replace h1 := cf h1
  refine tc tbk 3 (.mk ?_)
  refine nb tbk h1 fun x389 h1 => ?_
  refine tr tbk 2 (.mk ?_)
  cases x389
  replace h1 := cf h1
  refine tc tbk 5 (.mk ?_)
  refine ni tbk h1 fun x390 h1 => ?_
  refine rse rfl rfl rfl (yl_buildO (ps := [(0, _)]) 3 [[int x390]] .any rfl Try.underlying26 bz3 (.cons rfl .nil) (by kernel_rfl) rfl rfl rfl) ?_; rintro _ _ ⟨v391, -, rfl, rfl⟩
  obtain ⟨x392, e392, h1⟩ := bnd_e h1
  obtain ⟨p393, h1⟩ := asrt_e h1
  refine rse rfl rfl rfl (Yield.frz 3 rfl (yl_appT (g := fI) (l := ([] : List Int)) (m := ([x390] : List Int)) .any rfl Try.underlying26 bz3 by3 rfl rfl rfl rfl rfl rfl rfl rfl rfl rfl (Eq.symm rfl) (cv_lst rfl rfl rfl rfl rfl (Eq.symm rfl)) (fun _ => rfl) e392 p393)) ?_; rintro _ _ ⟨v394, -, rfl, rfl⟩
  refine tr tbk 1 (.mk ?_)
  refine sS ⟨28, 9, true, true, v375, [[int 6, int 0, int 0, int 0, int 0, int 1, int 0, int 0, .sl 5 v394 0 x392.length]]⟩ sh26 ?_
  refine tr tbk 2 (.mk ?_)
  exact lf h1 v394 leA
  replace h1 := ct h1
  refine tc tbk 3 (.mk ?_)
  refine ni tbk h1 fun x395 h1 => ?_
  refine tr tbk 1 (.mk ?_)
  refine sS ⟨28, 9, true, true, v375, [[int 6, int 0, int 0, int 0, int 0, int 1, int 0, int x395, .sl 5 v379 0 0]]⟩ sh3 ?_
  refine tr tbk 2 (.mk ?_)
  exact lf h1 v379 leA
  replace h1 := ct h1
  refine tc tbk 3 (.mk ?_)
  refine ni tbk h1 fun x396 h1 => ?_
  refine tr tbk 1 (.mk ?_)
  refine sS ⟨28, 9, true, true, v375, [[int 6, int 0, int 0, int 0, int 0, int 1, int x396, int 0, .sl 5 v379 0 0]]⟩ sh3 ?_
  refine tr tbk 2 (.mk ?_)
  exact lf h1 v379 leA
  replace h1 := ct h1
  refine tc tbk 3 (.mk ?_)
  refine ni tbk h1 fun x397 h1 => ?_
  refine tr tbk 1 (.mk ?_)
  refine sS ⟨28, 9, true, true, v375, [[int 6, int 0, int 0, int 0, int 0, int x397, int 0, int 0, .sl 5 v379 0 0]]⟩ sh3 ?_
  refine tr tbk 2 (.mk ?_)
  exact lf h1 v379 leA
  replace h1 := ct h1
  refine tc tbk 3 (.mk ?_)
  refine ni tbk h1 fun x398 h1 => ?_
  refine tr tbk 1 (.mk ?_)
  refine sS ⟨28, 9, true, true, v375, [[int 6, int 0, int 0, int 0, int x398, int 1, int 0, int 0, .sl 5 v379 0 0]]⟩ sh3 ?_
  refine tr tbk 2 (.mk ?_)
  exact lf h1 v379 leA
  replace h1 := ct h1
  refine tc tbk 3 (.mk ?_)
  refine ni tbk h1 fun x399 h1 => ?_
  refine tr tbk 1 (.mk ?_)
  refine sS ⟨28, 9, true, true, v375, [[int 6, int 0, int 0, int x399, int 0, int 1, int 0, int 0, .sl 5 v379 0 0]]⟩ sh3 ?_
  refine tr tbk 2 (.mk ?_)
  exact lf h1 v379 leA
  replace h1 := ct h1
  refine tc tbk 3 (.mk ?_)
  refine ni tbk h1 fun x400 h1 => ?_
  refine tr tbk 1 (.mk ?_)
  refine sS ⟨28, 9, true, true, v375, [[int 6, int 0, int x400, int 0, int 0, int 1, int 0, int 0, .sl 5 v379 0 0]]⟩ sh3 ?_
  refine tr tbk 2 (.mk ?_)
  exact lf h1 v379 leA
  replace h1 := ct h1
  refine tc tbk 3 (.mk ?_)
  refine ni tbk h1 fun x401 h1 => ?_
  refine tr tbk 1 (.mk ?_)
  refine sS ⟨28, 9, true, true, v375, [[int 6, int x401, int 0, int 0, int 0, int 1, int 0, int 0, .sl 5 v379 0 0]]⟩ sh3 ?_
  refine tr tbk 2 (.mk ?_)
  exact lf h1 v379 leA
  replace h1 := ct h1
  refine tc tbk 3 (.mk ?_)
  refine ni tbk h1 fun x402 h1 => ?_
  refine tr tbk 1 (.mk ?_)
  refine sS ⟨28, 9, true, true, v375, [[int x402, int 0, int 0, int 0, int 0, int 1, int 0, int 0, .sl 5 v379 0 0]]⟩ sh3 ?_
  refine tr tbk 2 (.mk ?_)
  exact lf h1 v379 leA
  replace h1 := ct h1
  refine tc tbk 3 (.mk ?_)
  refine ni tbk h1 fun x403 h1 => ?_
  refine tr tbk 1 (.mk ?_)
  refine sS ⟨28, 9, true, true, v375, [[int x403, int 0, int 0, int 0, int 0, int 1, int 0, int 0, .sl 5 v379 0 0]]⟩ sh3 ?_
  refine tr tbk 2 (.mk ?_)
  exact lf h1 v379 leA
  rintro ⟨y0_1, y0_2, y0_3, y0_4, y0_5, y0_6, y0_7, y0_8, y0_10⟩ w0_9 h0
  replace h0 := p2_e h0
  replace h0 := p2_e h0
  replace h0 := p2_e h0
  replace h0 := p2_e h0
  replace h0 := p2_e h0
  replace h0 := p2_e h0
  replace h0 := p2_e h0
  replace h0 := p2_e h0
  refine tc tbk 1 (.mk ?_)
  refine jn h0 [] [] (fun (a : Bool) (k : Unit) => [(6, boo a)]) (fun a k => []) ⟨fun j404 h1 => ?_, ?_⟩
  refine tc tbk 2 (.mk ?_)
  obtain ⟨x405, e405, h1⟩ := bind_e h1
  refine sY (yv_callT (v := boo x405) rfl rfl (.cons rfl .nil) cal8 (.cons (CvL.agg (.cons (.refl _) (.cons (.refl _) (.cons (.refl _) (.cons (.refl _) (.cons (.refl _) (.cons (.refl _) (.cons (.refl _) (.cons (.refl _) (.cons (cv_lst rfl rfl rfl rfl rfl (Eq.symm rfl)) .nil)))))))))) .nil) (d_ops_Check_c e405) rfl) ?_
  refine nb tbk h1 fun x406 h1 => ?_
  refine tr tbk 1 (.mk ?_)
  cases x406
  replace h1 := cf h1
  refine tr tbk 10 (.mk ?_)
  exact lf h1 () leA
  replace h1 := ct h1
  refine tr tbk 1 (.mk ?_)
  refine sY (yv_buildSlice (ps := [(0, _)]) (rows := [[int y0_1, int y0_2, int y0_3, int y0_4, int y0_5, int y0_6, int y0_7, int y0_8, .sl 5 w0_9 0 y0_10.length]]) rfl Try.underlying22 bz28 (.cons rfl .nil) (by kernel_rfl) rfl rfl rfl) ?_
  obtain ⟨x407, e407, h1⟩ := bind_e h1
  refine sY (yv_callT (v := str x407) rfl rfl (.cons rfl .nil) cal14 (.cons (CvLL.list (.cons (.cons (.refl _) (.cons (.refl _) (.cons (.refl _) (.cons (.refl _) (.cons (.refl _) (.cons (.refl _) (.cons (.refl _) (.cons (.refl _) (.cons (cv_lst rfl rfl rfl rfl rfl (Eq.symm rfl)) .nil))))))))) .nil)) .nil) (d_ops_Bytes_c e407) rfl) ?_
  obtain ⟨x408, e408, h1⟩ := bnd_e h1
  refine sY (yv_to (y := boo x408) (yv_seql rfl rfl rfl) (congrArg boo e408)) ?_
  refine tr tbk 2 (.mk ?_)
  cases x408
  replace h1 := cf h1
  refine tr tbk 4 (.mk ?_)
  exact lf h1 () leA
  replace h1 := ct h1
  obtain ⟨x409, e409, h1⟩ := bind_e h1
  refine sC cal7 (d_law05_awake_c e409) ?_
  refine tr tbk 3 (.mk ?_)
  exact lf h1 () leA
  rintro y1_1 _ h0
  obtain rfl := nxt_e h0
  refine wR hret (rT .nil) ?_
  exact .refl _
  replace h0 := ct h0
  refine rsas 35 (int 5) rfl (congrArg int (of_decide_eq_true e14)) ?_
  refine sY (yv_indexA rfl Try.underlying43 sh28 rfl rfl (by decide) rfl) ?_
  refine sA 2 z28 fun v410 => ?_
  refine sS ⟨28, 9, true, true, v410, [[int 5, int 0, int 0, int 0, int 0, int 1, int 0, int 0, .sc (.slice none 0 0)]]⟩ sh28 ?_
  refine tr tbk 5 (.mk ?_)
  obtain ⟨x411, e411, h0⟩ := bind_e h0
  refine sY (yv_callP rfl rfl (.cons rfl .nil) cal8 (.cons (CvL.agg (.cons (.refl _) (.cons (.refl _) (.cons (.refl _) (.cons (.refl _) (.cons (.refl _) (.cons (.refl _) (.cons (.refl _) (.cons (.refl _) (.cons (.nil _) .nil)))))))))) .nil) (d_ops_Check_c e411)) ?_
  refine nb tbk h0 fun x412 h0 => ?_
  refine tr tbk 1 (.mk ?_)
  replace h0 := asrt_e h0
  obtain ⟨rfl, h0⟩ := h0
  refine tc tbk 6 (.mk ?_)
  obtain ⟨x413, e413, h0⟩ := bind_e h0
  refine sC cal19 (d_law00_Place_c e413) ?_
  refine tr tbk 1 (.mk ?_)
  refine c_nilcell 2 0 8 5 3 1 (rows := fun v414 => [[int 5, int 0, int 0, int 0, int 0, int 1, int 0, int 0, .sl 5 v414 0 0]]) rfl rfl rfl rfl (fun _ => rfl) ?_; intro v414
  refine jn h0 [6, 9] [] (fun (a : Int × Int × Int × Int × Int × Int × Int × Int × (List Int)) (k : Nat) => []) (fun a k => [(2, ⟨28, 9, true, true, v410, [[int a.1, int a.2.1, int a.2.2.1, int a.2.2.2.1, int a.2.2.2.2.1, int a.2.2.2.2.2.1, int a.2.2.2.2.2.2.1, int a.2.2.2.2.2.2.2.1, .sl 5 k 0 a.2.2.2.2.2.2.2.2.length]]⟩), (5, ⟨3, 1, true, true, k, a.2.2.2.2.2.2.2.2.map fI⟩)]) ⟨fun j415 h1 => ?_, ?_⟩
  refine tc tbk 3 (.mk ?_)
  refine nb tbk h1 fun x416 h1 => ?_
  refine tr tbk 2 (.mk ?_)
  cases x416
  replace h1 := cf h1
  refine tc tbk 3 (.mk ?_)
  refine nb tbk h1 fun x417 h1 => ?_
  refine tr tbk 2 (.mk ?_)
  cases x417
  replace h1 := cf h1
  refine tc tbk 3 (.mk ?_)
  refine nb tbk h1 fun x418 h1 => ?_
  refine tr tbk 2 (.mk ?_)
  cases x418
  replace h1 := cf h1
  refine tc tbk 3 (.mk ?_)
  refine nb tbk h1 fun x419 h1 => ?_
  refine tr tbk 2 (.mk ?_)
  cases x419
  replace h1 := cf h1
  refine tc tbk 3 (.mk ?_)
  refine nb tbk h1 fun x420 h1 => ?_
  refine tr tbk 2 (.mk ?_)
  cases x420
  replace h1 := cf h1
  refine tc tbk 3 (.mk ?_)
  refine nb tbk h1 fun x421 h1 => ?_
  refine tr tbk 2 (.mk ?_)
  cases x421
  replace h1 := cf h1
  refine tc tbk 3 (.mk ?_)
  refine nb tbk h1 fun x422 h1 => ?_
  refine tr tbk 2 (.mk ?_)
  cases x422
  replace h1 := cf h1
  refine tc tbk 3 (.mk ?_)
  refine nb tbk h1 fun x423 h1 => ?_
  refine tr tbk 2 (.mk ?_)
  cases x423
  replace h1 := cf h1
  refine tc tbk 3 (.mk ?_)
  refine nb tbk h1 fun x424 h1 => ?_
  refine tr tbk 2 (.mk ?_)
  cases x424
  replace h1 := cf h1
  refine tc tbk 5 (.mk ?_)
  refine ni tbk h1 fun x425 h1 => ?_
  refine rse rfl rfl rfl (yl_buildO (ps := [(0, _)]) 3 [[int x425]] .any rfl Try.underlying26 bz3 (.cons rfl .nil) (by kernel_rfl) rfl rfl rfl) ?_; rintro _ _ ⟨v426, -, rfl, rfl⟩
  obtain ⟨x427, e427, h1⟩ := bnd_e h1
  obtain ⟨p428, h1⟩ := asrt_e h1
  refine rse rfl rfl rfl (Yield.frz 3 rfl (yl_appT (g := fI) (l := ([] : List Int)) (m := ([x425] : List Int)) .any rfl Try.underlying26 bz3 by3 rfl rfl rfl rfl rfl rfl rfl rfl rfl rfl (Eq.symm rfl) (cv_lst rfl rfl rfl rfl rfl (Eq.symm rfl)) (fun _ => rfl) e427 p428)) ?_; rintro _ _ ⟨v429, -, rfl, rfl⟩
  refine tr tbk 1 (.mk ?_)
  refine sS ⟨28, 9, true, true, v410, [[int 5, int 0, int 0, int 0, int 0, int 1, int 0, int 0, .sl 5 v429 0 x427.length]]⟩ sh26 ?_
  refine tr tbk 2 (.mk ?_)
  exact lf h1 v429 leA
  replace h1 := ct h1
  refine tc tbk 3 (.mk ?_)
  refine ni tbk h1 fun x430 h1 => ?_
  refine tr tbk 1 (.mk ?_)
  refine sS ⟨28, 9, true, true, v410, [[int 5, int 0, int 0, int 0, int 0, int 1, int 0, int x430, .sl 5 v414 0 0]]⟩ sh3 ?_
  refine tr tbk 2 (.mk ?_)
  exact lf h1 v414 leA
  replace h1 := ct h1
  refine tc tbk 3 (.mk ?_)
  refine ni tbk h1 fun x431 h1 => ?_
  refine tr tbk 1 (.mk ?_)
  refine sS ⟨28, 9, true, true, v410, [[int 5, int 0, int 0, int 0, int 0, int 1, int x431, int 0, .sl 5 v414 0 0]]⟩ sh3 ?_
  refine tr tbk 2 (.mk ?_)
  exact lf h1 v414 leA
  replace h1 := ct h1
  refine tc tbk 3 (.mk ?_)
  refine ni tbk h1 fun x432 h1 => ?_
  refine tr tbk 1 (.mk ?_)
  refine sS ⟨28, 9, true, true, v410, [[int 5, int 0, int 0, int 0, int 0, int x432, int 0, int 0, .sl 5 v414 0 0]]⟩ sh3 ?_
  refine tr tbk 2 (.mk ?_)
  exact lf h1 v414 leA
  replace h1 := ct h1
  refine tc tbk 3 (.mk ?_)
  refine ni tbk h1 fun x433 h1 => ?_
  refine tr tbk 1 (.mk ?_)
  refine sS ⟨28, 9, true, true, v410, [[int 5, int 0, int 0, int 0, int x433, int 1, int 0, int 0, .sl 5 v414 0 0]]⟩ sh3 ?_
  refine tr tbk 2 (.mk ?_)
  exact lf h1 v414 leA
  replace h1 := ct h1
  refine tc tbk 3 (.mk ?_)
  refine ni tbk h1 fun x434 h1 => ?_
  refine tr tbk 1 (.mk ?_)
  refine sS ⟨28, 9, true, true, v410, [[int 5, int 0, int 0, int x434, int 0, int 1, int 0, int 0, .sl 5 v414 0 0]]⟩ sh3 ?_
  refine tr tbk 2 (.mk ?_)
  exact lf h1 v414 leA
  replace h1 := ct h1
  refine tc tbk 3 (.mk ?_)
  refine ni tbk h1 fun x435 h1 => ?_
  refine tr tbk 1 (.mk ?_)
  refine sS ⟨28, 9, true, true, v410, [[int 5, int 0, int x435, int 0, int 0, int 1, int 0, int 0, .sl 5 v414 0 0]]⟩ sh3 ?_
  refine tr tbk 2 (.mk ?_)
  exact lf h1 v414 leA
  replace h1 := ct h1
  refine tc tbk 3 (.mk ?_)
  refine ni tbk h1 fun x436 h1 => ?_
  refine tr tbk 1 (.mk ?_)
  refine sS ⟨28, 9, true, true, v410, [[int 5, int x436, int 0, int 0, int 0, int 1, int 0, int 0, .sl 5 v414 0 0]]⟩ sh3 ?_
  refine tr tbk 2 (.mk ?_)
  exact lf h1 v414 leA
  replace h1 := ct h1
  refine tc tbk 3 (.mk ?_)
  refine ni tbk h1 fun x437 h1 => ?_
  refine tr tbk 1 (.mk ?_)
  refine sS ⟨28, 9, true, true, v410, [[int x437, int 0, int 0, int 0, int 0, int 1, int 0, int 0, .sl 5 v414 0 0]]⟩ sh3 ?_
  refine tr tbk 2 (.mk ?_)
  exact lf h1 v414 leA
  replace h1 := ct h1
  refine tc tbk 3 (.mk ?_)
  refine ni tbk h1 fun x438 h1 => ?_
  refine tr tbk 1 (.mk ?_)
  refine sS ⟨28, 9, true, true, v410, [[int x438, int 0, int 0, int 0, int 0, int 1, int 0, int 0, .sl 5 v414 0 0]]⟩ sh3 ?_
  refine tr tbk 2 (.mk ?_)
  exact lf h1 v414 leA
  rintro ⟨y0_1, y0_2, y0_3, y0_4, y0_5, y0_6, y0_7, y0_8, y0_10⟩ w0_9 h0
  replace h0 := p2_e h0
  replace h0 := p2_e h0
  replace h0 := p2_e h0
  replace h0 := p2_e h0
  replace h0 := p2_e h0
  replace h0 := p2_e h0
  replace h0 := p2_e h0
  replace h0 := p2_e h0
  refine tc tbk 1 (.mk ?_)
  refine jn h0 [] [] (fun (a : Bool) (k : Unit) => [(6, boo a)]) (fun a k => []) ⟨fun j439 h1 => ?_, ?_⟩
  refine tc tbk 2 (.mk ?_)
  obtain ⟨x440, e440, h1⟩ := bind_e h1
  refine sY (yv_callT (v := boo x440) rfl rfl (.cons rfl .nil) cal8 (.cons (CvL.agg (.cons (.refl _) (.cons (.refl _) (.cons (.refl _) (.cons (.refl _) (.cons (.refl _) (.cons (.refl _) (.cons (.refl _) (.cons (.refl _) (.cons (cv_lst rfl rfl rfl rfl rfl (Eq.symm rfl)) .nil)))))))))) .nil) (d_ops_Check_c e440) rfl) ?_
  refine nb tbk h1 fun x441 h1 => ?_
  refine tr tbk 1 (.mk ?_)
  cases x441
  replace h1 := cf h1
  refine tr tbk 10 (.mk ?_)
  exact lf h1 () leA
  replace h1 := ct h1
  refine tr tbk 1 (.mk ?_)
  refine sY (yv_buildSlice (ps := [(0, _)]) (rows := [[int y0_1, int y0_2, int y0_3, int y0_4, int y0_5, int y0_6, int y0_7, int y0_8, .sl 5 w0_9 0 y0_10.length]]) rfl Try.underlying22 bz28 (.cons rfl .nil) (by kernel_rfl) rfl rfl rfl) ?_
  obtain ⟨x442, e442, h1⟩ := bind_e h1
  refine sY (yv_callT (v := str x442) rfl rfl (.cons rfl .nil) cal14 (.cons (CvLL.list (.cons (.cons (.refl _) (.cons (.refl _) (.cons (.refl _) (.cons (.refl _) (.cons (.refl _) (.cons (.refl _) (.cons (.refl _) (.cons (.refl _) (.cons (cv_lst rfl rfl rfl rfl rfl (Eq.symm rfl)) .nil))))))))) .nil)) .nil) (d_ops_Bytes_c e442) rfl) ?_
  obtain ⟨x443, e443, h1⟩ := bnd_e h1
  refine sY (yv_to (y := boo x443) (yv_seql rfl rfl rfl) (congrArg boo e443)) ?_
  refine tr tbk 2 (.mk ?_)
  cases x443
  replace h1 := cf h1
  refine tr tbk 4 (.mk ?_)
  exact lf h1 () leA
  replace h1 := ct h1
  obtain ⟨x444, e444, h1⟩ := bind_e h1
  refine sC cal7 (d_law05_awake_c e444) ?_
  refine tr tbk 3 (.mk ?_)
  exact lf h1 () leA
  rintro y1_1 _ h0
  obtain rfl := nxt_e h0
  refine wR hret (rT .nil) ?_
  exact .refl _
  replace h0 := ct h0
  refine rsas 35 (int 4) rfl (congrArg int (of_decide_eq_true e13)) ?_
  refine sY (yv_indexA rfl Try.underlying43 sh28 rfl rfl (by decide) rfl) ?_
  refine sA 2 z28 fun v445 => ?_
  refine sS ⟨28, 9, true, true, v445, [[int 4, int 0, int 0, int 0, int 0, int 1, int 0, int 0, .sc (.slice none 0 0)]]⟩ sh28 ?_
  refine tr tbk 5 (.mk ?_)
  obtain ⟨x446, e446, h0⟩ := bind_e h0
  refine sY (yv_callP rfl rfl (.cons rfl .nil) cal8 (.cons (CvL.agg (.cons (.refl _) (.cons (.refl _) (.cons (.refl _) (.cons (.refl _) (.cons (.refl _) (.cons (.refl _) (.cons (.refl _) (.cons (.refl _) (.cons (.nil _) .nil)))))))))) .nil) (d_ops_Check_c e446)) ?_
  refine nb tbk h0 fun x447 h0 => ?_
  refine tr tbk 1 (.mk ?_)
  replace h0 := asrt_e h0
  obtain ⟨rfl, h0⟩ := h0
  refine tc tbk 6 (.mk ?_)
  obtain ⟨x448, e448, h0⟩ := bind_e h0
  refine sC cal19 (d_law00_Place_c e448) ?_
  refine tr tbk 1 (.mk ?_)
  refine c_nilcell 2 0 8 5 3 1 (rows := fun v449 => [[int 4, int 0, int 0, int 0, int 0, int 1, int 0, int 0, .sl 5 v449 0 0]]) rfl rfl rfl rfl (fun _ => rfl) ?_; intro v449
  refine jn h0 [6, 9] [] (fun (a : Int × Int × Int × Int × Int × Int × Int × Int × (List Int)) (k : Nat) => []) (fun a k => [(2, ⟨28, 9, true, true, v445, [[int a.1, int a.2.1, int a.2.2.1, int a.2.2.2.1, int a.2.2.2.2.1, int a.2.2.2.2.2.1, int a.2.2.2.2.2.2.1, int a.2.2.2.2.2.2.2.1, .sl 5 k 0 a.2.2.2.2.2.2.2.2.length]]⟩), (5, ⟨3, 1, true, true, k, a.2.2.2.2.2.2.2.2.map fI⟩)]) ⟨fun j450 h1 => ?_, ?_⟩
  refine tc tbk 3 (.mk ?_)
  refine nb tbk h1 fun x451 h1 => ?_
  refine tr tbk 2 (.mk ?_)
  cases x451
  replace h1 := cf h1
  refine tc tbk 3 (.mk ?_)
  refine nb tbk h1 fun x452 h1 => ?_
  refine tr tbk 2 (.mk ?_)
  cases x452
  replace h1 := cf h1
  refine tc tbk 3 (.mk ?_)
  refine nb tbk h1 fun x453 h1 => ?_
  refine tr tbk 2 (.mk ?_)
  cases x453
  replace h1 := cf h1
  refine tc tbk 3 (.mk ?_)
  refine nb tbk h1 fun x454 h1 => ?_
  refine tr tbk 2 (.mk ?_)
  cases x454
  replace h1 := cf h1
  refine tc tbk 3 (.mk ?_)
  refine nb tbk h1 fun x455 h1 => ?_
  refine tr tbk 2 (.mk ?_)
  cases x455
  replace h1 := cf h1
  refine tc tbk 3 (.mk ?_)
  refine nb tbk h1 fun x456 h1 => ?_
  refine tr tbk 2 (.mk ?_)
  cases x456
  replace h1 := cf h1
  refine tc tbk 3 (.mk ?_)
  refine nb tbk h1 fun x457 h1 => ?_
  refine tr tbk 2 (.mk ?_)
  cases x457
  replace h1 := cf h1
  refine tc tbk 3 (.mk ?_)
  refine nb tbk h1 fun x458 h1 => ?_
  refine tr tbk 2 (.mk ?_)
  cases x458
  replace h1 := cf h1
  refine tc tbk 3 (.mk ?_)
  refine nb tbk h1 fun x459 h1 => ?_
  refine tr tbk 2 (.mk ?_)
  cases x459
  replace h1 := cf h1
  refine tc tbk 5 (.mk ?_)
  refine ni tbk h1 fun x460 h1 => ?_
  refine rse rfl rfl rfl (yl_buildO (ps := [(0, _)]) 3 [[int x460]] .any rfl Try.underlying26 bz3 (.cons rfl .nil) (by kernel_rfl) rfl rfl rfl) ?_; rintro _ _ ⟨v461, -, rfl, rfl⟩
  obtain ⟨x462, e462, h1⟩ := bnd_e h1
  obtain ⟨p463, h1⟩ := asrt_e h1
  refine rse rfl rfl rfl (Yield.frz 3 rfl (yl_appT (g := fI) (l := ([] : List Int)) (m := ([x460] : List Int)) .any rfl Try.underlying26 bz3 by3 rfl rfl rfl rfl rfl rfl rfl rfl rfl rfl (Eq.symm rfl) (cv_lst rfl rfl rfl rfl rfl (Eq.symm rfl)) (fun _ => rfl) e462 p463)) ?_; rintro _ _ ⟨v464, -, rfl, rfl⟩
  refine tr tbk 1 (.mk ?_)
  refine sS ⟨28, 9, true, true, v445, [[int 4, int 0, int 0, int 0, int 0, int 1, int 0, int 0, .sl 5 v464 0 x462.length]]⟩ sh26 ?_
  refine tr tbk 2 (.mk ?_)
  exact lf h1 v464 leA
  replace h1 := ct h1
  refine tc tbk 3 (.mk ?_)
  refine ni tbk h1 fun x465 h1 => ?_
  refine tr tbk 1 (.mk ?_)
  refine sS ⟨28, 9, true, true, v445, [[int 4, int 0, int 0, int 0, int 0, int 1, int 0, int x465, .sl 5 v449 0 0]]⟩ sh3 ?_
  refine tr tbk 2 (.mk ?_)
  exact lf h1 v449 leA
  replace h1 := ct h1
  refine tc tbk 3 (.mk ?_)
  refine ni tbk h1 fun x466 h1 => ?_
  refine tr tbk 1 (.mk ?_)
  refine sS ⟨28, 9, true, true, v445, [[int 4, int 0, int 0, int 0, int 0, int 1, int x466, int 0, .sl 5 v449 0 0]]⟩ sh3 ?_
  refine tr tbk 2 (.mk ?_)
  exact lf h1 v449 leA
  replace h1 := ct h1
  refine tc tbk 3 (.mk ?_)
  refine ni tbk h1 fun x467 h1 => ?_
  refine tr tbk 1 (.mk ?_)
  refine sS ⟨28, 9, true, true, v445, [[int 4, int 0, int 0, int 0, int 0, int x467, int 0, int 0, .sl 5 v449 0 0]]⟩ sh3 ?_
  refine tr tbk 2 (.mk ?_)
  exact lf h1 v449 leA
  replace h1 := ct h1
  refine tc tbk 3 (.mk ?_)
  refine ni tbk h1 fun x468 h1 => ?_
  refine tr tbk 1 (.mk ?_)
  refine sS ⟨28, 9, true, true, v445, [[int 4, int 0, int 0, int 0, int x468, int 1, int 0, int 0, .sl 5 v449 0 0]]⟩ sh3 ?_
  refine tr tbk 2 (.mk ?_)
  exact lf h1 v449 leA
  replace h1 := ct h1
  refine tc tbk 3 (.mk ?_)
  refine ni tbk h1 fun x469 h1 => ?_
  refine tr tbk 1 (.mk ?_)
  refine sS ⟨28, 9, true, true, v445, [[int 4, int 0, int 0, int x469, int 0, int 1, int 0, int 0, .sl 5 v449 0 0]]⟩ sh3 ?_
  refine tr tbk 2 (.mk ?_)
  exact lf h1 v449 leA
  replace h1 := ct h1
  refine tc tbk 3 (.mk ?_)
  refine ni tbk h1 fun x470 h1 => ?_
  refine tr tbk 1 (.mk ?_)
  refine sS ⟨28, 9, true, true, v445, [[int 4, int 0, int x470, int 0, int 0, int 1, int 0, int 0, .sl 5 v449 0 0]]⟩ sh3 ?_
  refine tr tbk 2 (.mk ?_)
  exact lf h1 v449 leA
  replace h1 := ct h1
  refine tc tbk 3 (.mk ?_)
  refine ni tbk h1 fun x471 h1 => ?_
  refine tr tbk 1 (.mk ?_)
  refine sS ⟨28, 9, true, true, v445, [[int 4, int x471, int 0, int 0, int 0, int 1, int 0, int 0, .sl 5 v449 0 0]]⟩ sh3 ?_
  refine tr tbk 2 (.mk ?_)
  exact lf h1 v449 leA
  replace h1 := ct h1
  refine tc tbk 3 (.mk ?_)
  refine ni tbk h1 fun x472 h1 => ?_
  refine tr tbk 1 (.mk ?_)
  refine sS ⟨28, 9, true, true, v445, [[int x472, int 0, int 0, int 0, int 0, int 1, int 0, int 0, .sl 5 v449 0 0]]⟩ sh3 ?_
  refine tr tbk 2 (.mk ?_)
  exact lf h1 v449 leA
  replace h1 := ct h1
  refine tc tbk 3 (.mk ?_)
  refine ni tbk h1 fun x473 h1 => ?_
  refine tr tbk 1 (.mk ?_)
  refine sS ⟨28, 9, true, true, v445, [[int x473, int 0, int 0, int 0, int 0, int 1, int 0, int 0, .sl 5 v449 0 0]]⟩ sh3 ?_
  refine tr tbk 2 (.mk ?_)
  exact lf h1 v449 leA
  rintro ⟨y0_1, y0_2, y0_3, y0_4, y0_5, y0_6, y0_7, y0_8, y0_10⟩ w0_9 h0
  replace h0 := p2_e h0
  replace h0 := p2_e h0
  replace h0 := p2_e h0
  replace h0 := p2_e h0
  replace h0 := p2_e h0
  replace h0 := p2_e h0
  replace h0 := p2_e h0
  replace h0 := p2_e h0
  refine tc tbk 1 (.mk ?_)
  refine jn h0 [] [] (fun (a : Bool) (k : Unit) => [(6, boo a)]) (fun a k => []) ⟨fun j474 h1 => ?_, ?_⟩
  refine tc tbk 2 (.mk ?_)
  obtain ⟨x475, e475, h1⟩ := bind_e h1
  refine sY (yv_callT (v := boo x475) rfl rfl (.cons rfl .nil) cal8 (.cons (CvL.agg (.cons (.refl _) (.cons (.refl _) (.cons (.refl _) (.cons (.refl _) (.cons (.refl _) (.cons (.refl _) (.cons (.refl _) (.cons (.refl _) (.cons (cv_lst rfl rfl rfl rfl rfl (Eq.symm rfl)) .nil)))))))))) .nil) (d_ops_Check_c e475) rfl) ?_
  refine nb tbk h1 fun x476 h1 => ?_
  refine tr tbk 1 (.mk ?_)
  cases x476
  replace h1 := cf h1
  refine tr tbk 10 (.mk ?_)
  exact lf h1 () leA
  replace h1 := ct h1
  refine tr tbk 1 (.mk ?_)
  refine sY (yv_buildSlice (ps := [(0, _)]) (rows := [[int y0_1, int y0_2, int y0_3, int y0_4, int y0_5, int y0_6, int y0_7, int y0_8, .sl 5 w0_9 0 y0_10.length]]) rfl Try.underlying22 bz28 (.cons rfl .nil) (by kernel_rfl) rfl rfl rfl) ?_
  obtain ⟨x477, e477, h1⟩ := bind_e h1
  refine sY (yv_callT (v := str x477) rfl rfl (.cons rfl .nil) cal14 (.cons (CvLL.list (.cons (.cons (.refl _) (.cons (.refl _) (.cons (.refl _) (.cons (.refl _) (.cons (.refl _) (.cons (.refl _) (.cons (.refl _) (.cons (.refl _) (.cons (cv_lst rfl rfl rfl rfl rfl (Eq.symm rfl)) .nil))))))))) .nil)) .nil) (d_ops_Bytes_c e477) rfl) ?_
  obtain ⟨x478, e478, h1⟩ := bnd_e h1
  refine sY (yv_to (y := boo x478) (yv_seql rfl rfl rfl) (congrArg boo e478)) ?_
  refine tr tbk 2 (.mk ?_)
  cases x478
  replace h1 := cf h1
  refine tr tbk 4 (.mk ?_)
  exact lf h1 () leA
  replace h1 := ct h1
  obtain ⟨x479, e479, h1⟩ := bind_e h1
  refine sC cal7 (d_law05_awake_c e479) ?_
  refine tr tbk 3 (.mk ?_)
  exact lf h1 () leA
  rintro y1_1 _ h0
  obtain rfl := nxt_e h0
  refine wR hret (rT .nil) ?_
  exact .refl _
  replace h0 := ct h0
  refine rsas 35 (int 3) rfl (congrArg int (of_decide_eq_true e12)) ?_
  refine sY (yv_indexA rfl Try.underlying43 sh28 rfl rfl (by decide) rfl) ?_
  refine sA 2 z28 fun v480 => ?_
  refine sS ⟨28, 9, true, true, v480, [[int 3, int 0, int 0, int 0, int 0, int 1, int 0, int 0, .sc (.slice none 0 0)]]⟩ sh28 ?_
  refine tr tbk 5 (.mk ?_)
  obtain ⟨x481, e481, h0⟩ := bind_e h0
  refine sY (yv_callP rfl rfl (.cons rfl .nil) cal8 (.cons (CvL.agg (.cons (.refl _) (.cons (.refl _) (.cons (.refl _) (.cons (.refl _) (.cons (.refl _) (.cons (.refl _) (.cons (.refl _) (.cons (.refl _) (.cons (.nil _) .nil)))))))))) .nil) (d_ops_Check_c e481)) ?_
  refine nb tbk h0 fun x482 h0 => ?_
  refine tr tbk 1 (.mk ?_)
  replace h0 := asrt_e h0
  obtain ⟨rfl, h0⟩ := h0
  refine tc tbk 6 (.mk ?_)
  obtain ⟨x483, e483, h0⟩ := bind_e h0
  refine sC cal19 (d_law00_Place_c e483) ?_
  refine tr tbk 1 (.mk ?_)
  refine c_nilcell 2 0 8 5 3 1 (rows := fun v484 => [[int 3, int 0, int 0, int 0, int 0, int 1, int 0, int 0, .sl 5 v484 0 0]]) rfl rfl rfl rfl (fun _ => rfl) ?_; intro v484
  refine jn h0 [6, 9] [] (fun (a : Int × Int × Int × Int × Int × Int × Int × Int × (List Int)) (k : Nat) => []) (fun a k => [(2, ⟨28, 9, true, true, v480, [[int a.1, int a.2.1, int a.2.2.1, int a.2.2.2.1, int a.2.2.2.2.1, int a.2.2.2.2.2.1, int a.2.2.2.2.2.2.1, int a.2.2.2.2.2.2.2.1, .sl 5 k 0 a.2.2.2.2.2.2.2.2.length]]⟩), (5, ⟨3, 1, true, true, k, a.2.2.2.2.2.2.2.2.map fI⟩)]) ⟨fun j485 h1 => ?_, ?_⟩
  refine tc tbk 3 (.mk ?_)
  refine nb tbk h1 fun x486 h1 => ?_
  refine tr tbk 2 (.mk ?_)
  cases x486
  replace h1 := cf h1
  refine tc tbk 3 (.mk ?_)
  refine nb tbk h1 fun x487 h1 => ?_
  refine tr tbk 2 (.mk ?_)
  cases x487
  replace h1 := cf h1
  refine tc tbk 3 (.mk ?_)
  refine nb tbk h1 fun x488 h1 => ?_
  refine tr tbk 2 (.mk ?_)
  cases x488
  replace h1 := cf h1
  refine tc tbk 3 (.mk ?_)
  refine nb tbk h1 fun x489 h1 => ?_
  refine tr tbk 2 (.mk ?_)
  cases x489
  replace h1 := cf h1
  refine tc tbk 3 (.mk ?_)
  refine nb tbk h1 fun x490 h1 => ?_
  refine tr tbk 2 (.mk ?_)
  cases x490
  replace h1 := cf h1
  refine tc tbk 3 (.mk ?_)
  refine nb tbk h1 fun x491 h1 => ?_
  refine tr tbk 2 (.mk ?_)
  cases x491
  replace h1 := cf h1
  refine tc tbk 3 (.mk ?_)
  refine nb tbk h1 fun x492 h1 => ?_
  refine tr tbk 2 (.mk ?_)
  cases x492
  replace h1 := cf h1
  refine tc tbk 3 (.mk ?_)
  refine nb tbk h1 fun x493 h1 => ?_
  refine tr tbk 2 (.mk ?_)
  cases x493
  replace h1 := cf h1
  refine tc tbk 3 (.mk ?_)
  refine nb tbk h1 fun x494 h1 => ?_
  refine tr tbk 2 (.mk ?_)
  cases x494
  replace h1 := cf h1
  refine tc tbk 5 (.mk ?_)
  refine ni tbk h1 fun x495 h1 => ?_
  refine rse rfl rfl rfl (yl_buildO (ps := [(0, _)]) 3 [[int x495]] .any rfl Try.underlying26 bz3 (.cons rfl .nil) (by kernel_rfl) rfl rfl rfl) ?_; rintro _ _ ⟨v496, -, rfl, rfl⟩
  obtain ⟨x497, e497, h1⟩ := bnd_e h1
  obtain ⟨p498, h1⟩ := asrt_e h1
  refine rse rfl rfl rfl (Yield.frz 3 rfl (yl_appT (g := fI) (l := ([] : List Int)) (m := ([x495] : List Int)) .any rfl Try.underlying26 bz3 by3 rfl rfl rfl rfl rfl rfl rfl rfl rfl rfl (Eq.symm rfl) (cv_lst rfl rfl rfl rfl rfl (Eq.symm rfl)) (fun _ => rfl) e497 p498)) ?_; rintro _ _ ⟨v499, -, rfl, rfl⟩
  refine tr tbk 1 (.mk ?_)
  refine sS ⟨28, 9, true, true, v480, [[int 3, int 0, int 0, int 0, int 0, int 1, int 0, int 0, .sl 5 v499 0 x497.length]]⟩ sh26 ?_
  refine tr tbk 2 (.mk ?_)
  exact lf h1 v499 leA
  replace h1 := ct h1
  refine tc tbk 3 (.mk ?_)
  refine ni tbk h1 fun x500 h1 => ?_
  refine tr tbk 1 (.mk ?_)
  refine sS ⟨28, 9, true, true, v480, [[int 3, int 0, int 0, int 0, int 0, int 1, int 0, int x500, .sl 5 v484 0 0]]⟩ sh3 ?_
  refine tr tbk 2 (.mk ?_)
  exact lf h1 v484 leA
  replace h1 := ct h1
  refine tc tbk 3 (.mk ?_)
  refine ni tbk h1 fun x501 h1 => ?_
  refine tr tbk 1 (.mk ?_)
  refine sS ⟨28, 9, true, true, v480, [[int 3, int 0, int 0, int 0, int 0, int 1, int x501, int 0, .sl 5 v484 0 0]]⟩ sh3 ?_
  refine tr tbk 2 (.mk ?_)
  exact lf h1 v484 leA
  replace h1 := ct h1
  refine tc tbk 3 (.mk ?_)
  refine ni tbk h1 fun x502 h1 => ?_
  refine tr tbk 1 (.mk ?_)
  refine sS ⟨28, 9, true, true, v480, [[int 3, int 0, int 0, int 0, int 0, int x502, int 0, int 0, .sl 5 v484 0 0]]⟩ sh3 ?_
  refine tr tbk 2 (.mk ?_)
  exact lf h1 v484 leA
  replace h1 := ct h1
  refine tc tbk 3 (.mk ?_)
  refine ni tbk h1 fun x503 h1 => ?_
  refine tr tbk 1 (.mk ?_)
  refine sS ⟨28, 9, true, true, v480, [[int 3, int 0, int 0, int 0, int x503, int 1, int 0, int 0, .sl 5 v484 0 0]]⟩ sh3 ?_
  refine tr tbk 2 (.mk ?_)
  exact lf h1 v484 leA
  replace h1 := ct h1
  refine tc tbk 3 (.mk ?_)
  refine ni tbk h1 fun x504 h1 => ?_
  refine tr tbk 1 (.mk ?_)
  refine sS ⟨28, 9, true, true, v480, [[int 3, int 0, int 0, int x504, int 0, int 1, int 0, int 0, .sl 5 v484 0 0]]⟩ sh3 ?_
  refine tr tbk 2 (.mk ?_)
  exact lf h1 v484 leA
  replace h1 := ct h1
  refine tc tbk 3 (.mk ?_)
  refine ni tbk h1 fun x505 h1 => ?_
  refine tr tbk 1 (.mk ?_)
  refine sS ⟨28, 9, true, true, v480, [[int 3, int 0, int x505, int 0, int 0, int 1, int 0, int 0, .sl 5 v484 0 0]]⟩ sh3 ?_
  refine tr tbk 2 (.mk ?_)
  exact lf h1 v484 leA
  replace h1 := ct h1
  refine tc tbk 3 (.mk ?_)
  refine ni tbk h1 fun x506 h1 => ?_
  refine tr tbk 1 (.mk ?_)
  refine sS ⟨28, 9, true, true, v480, [[int 3, int x506, int 0, int 0, int 0, int 1, int 0, int 0, .sl 5 v484 0 0]]⟩ sh3 ?_
  refine tr tbk 2 (.mk ?_)
  exact lf h1 v484 leA
  replace h1 := ct h1
  refine tc tbk 3 (.mk ?_)
  refine ni tbk h1 fun x507 h1 => ?_
  refine tr tbk 1 (.mk ?_)
  refine sS ⟨28, 9, true, true, v480, [[int x507, int 0, int 0, int 0, int 0, int 1, int 0, int 0, .sl 5 v484 0 0]]⟩ sh3 ?_
  refine tr tbk 2 (.mk ?_)
  exact lf h1 v484 leA
  replace h1 := ct h1
  refine tc tbk 3 (.mk ?_)
  refine ni tbk h1 fun x508 h1 => ?_
  refine tr tbk 1 (.mk ?_)
  refine sS ⟨28, 9, true, true, v480, [[int x508, int 0, int 0, int 0, int 0, int 1, int 0, int 0, .sl 5 v484 0 0]]⟩ sh3 ?_
  refine tr tbk 2 (.mk ?_)
  exact lf h1 v484 leA
  rintro ⟨y0_1, y0_2, y0_3, y0_4, y0_5, y0_6, y0_7, y0_8, y0_10⟩ w0_9 h0
  replace h0 := p2_e h0
  replace h0 := p2_e h0
  replace h0 := p2_e h0
  replace h0 := p2_e h0
  replace h0 := p2_e h0
  replace h0 := p2_e h0
  replace h0 := p2_e h0
  replace h0 := p2_e h0
  refine tc tbk 1 (.mk ?_)
  refine jn h0 [] [] (fun (a : Bool) (k : Unit) => [(6, boo a)]) (fun a k => []) ⟨fun j509 h1 => ?_, ?_⟩
  refine tc tbk 2 (.mk ?_)
  obtain ⟨x510, e510, h1⟩ := bind_e h1
  refine sY (yv_callT (v := boo x510) rfl rfl (.cons rfl .nil) cal8 (.cons (CvL.agg (.cons (.refl _) (.cons (.refl _) (.cons (.refl _) (.cons (.refl _) (.cons (.refl _) (.cons (.refl _) (.cons (.refl _) (.cons (.refl _) (.cons (cv_lst rfl rfl rfl rfl rfl (Eq.symm rfl)) .nil)))))))))) .nil) (d_ops_Check_c e510) rfl) ?_
  refine nb tbk h1 fun x511 h1 => ?_
  refine tr tbk 1 (.mk ?_)
  cases x511
  replace h1 := cf h1
  refine tr tbk 10 (.mk ?_)
  exact lf h1 () leA
  replace h1 := ct h1
  refine tr tbk 1 (.mk ?_)
  refine sY (yv_buildSlice (ps := [(0, _)]) (rows := [[int y0_1, int y0_2, int y0_3, int y0_4, int y0_5, int y0_6, int y0_7, int y0_8, .sl 5 w0_9 0 y0_10.length]]) rfl Try.underlying22 bz28 (.cons rfl .nil) (by kernel_rfl) rfl rfl rfl) ?_
  obtain ⟨x512, e512, h1⟩ := bind_e h1
  refine sY (yv_callT (v := str x512) rfl rfl (.cons rfl .nil) cal14 (.cons (CvLL.list (.cons (.cons (.refl _) (.cons (.refl _) (.cons (.refl _) (.cons (.refl _) (.cons (.refl _) (.cons (.refl _) (.cons (.refl _) (.cons (.refl _) (.cons (cv_lst rfl rfl rfl rfl rfl (Eq.symm rfl)) .nil))))))))) .nil)) .nil) (d_ops_Bytes_c e512) rfl) ?_
  obtain ⟨x513, e513, h1⟩ := bnd_e h1
  refine sY (yv_to (y := boo x513) (yv_seql rfl rfl rfl) (congrArg boo e513)) ?_
  refine tr tbk 2 (.mk ?_)
  cases x513
  replace h1 := cf h1
  refine tr tbk 4 (.mk ?_)
  exact lf h1 () leA
  replace h1 := ct h1
  obtain ⟨x514, e514, h1⟩ := bind_e h1
  refine sC cal7 (d_law05_awake_c e514) ?_
  refine tr tbk 3 (.mk ?_)
  exact lf h1 () leA
  rintro y1_1 _ h0
  obtain rfl := nxt_e h0
  refine wR hret (rT .nil) ?_
  exact .refl _
  replace h0 := ct h0
  refine rsas 35 (int 2) rfl (congrArg int (of_decide_eq_true e11)) ?_
  refine sY (yv_indexA rfl Try.underlying43 sh28 rfl rfl (by decide) rfl) ?_
  refine sA 2 z28 fun v515 => ?_
  refine sS ⟨28, 9, true, true, v515, [[int 2, int 0, int 0, int 0, int 0, int 1, int 0, int 0, .sc (.slice none 0 0)]]⟩ sh28 ?_
  refine tr tbk 5 (.mk ?_)
  obtain ⟨x516, e516, h0⟩ := bind_e h0
  refine sY (yv_callP rfl rfl (.cons rfl .nil) cal8 (.cons (CvL.agg (.cons (.refl _) (.cons (.refl _) (.cons (.refl _) (.cons (.refl _) (.cons (.refl _) (.cons (.refl _) (.cons (.refl _) (.cons (.refl _) (.cons (.nil _) .nil)))))))))) .nil) (d_ops_Check_c e516)) ?_
  refine nb tbk h0 fun x517 h0 => ?_
  refine tr tbk 1 (.mk ?_)
  replace h0 := asrt_e h0
  obtain ⟨rfl, h0⟩ := h0
  refine tc tbk 6 (.mk ?_)
  obtain ⟨x518, e518, h0⟩ := bind_e h0
  refine sC cal19 (d_law00_Place_c e518) ?_
  refine tr tbk 1 (.mk ?_)
  refine c_nilcell 2 0 8 5 3 1 (rows := fun v519 => [[int 2, int 0, int 0, int 0, int 0, int 1, int 0, int 0, .sl 5 v519 0 0]]) rfl rfl rfl rfl (fun _ => rfl) ?_; intro v519
  refine jn h0 [6, 9] [] (fun (a : Int × Int × Int × Int × Int × Int × Int × Int × (List Int)) (k : Nat) => []) (fun a k => [(2, ⟨28, 9, true, true, v515, [[int a.1, int a.2.1, int a.2.2.1, int a.2.2.2.1, int a.2.2.2.2.1, int a.2.2.2.2.2.1, int a.2.2.2.2.2.2.1, int a.2.2.2.2.2.2.2.1, .sl 5 k 0 a.2.2.2.2.2.2.2.2.length]]⟩), (5, ⟨3, 1, true, true, k, a.2.2.2.2.2.2.2.2.map fI⟩)]) ⟨fun j520 h1 => ?_, ?_⟩
  refine tc tbk 3 (.mk ?_)
  refine nb tbk h1 fun x521 h1 => ?_
  refine tr tbk 2 (.mk ?_)
  cases x521
  replace h1 := cf h1
  refine tc tbk 3 (.mk ?_)
  refine nb tbk h1 fun x522 h1 => ?_
  refine tr tbk 2 (.mk ?_)
  cases x522
  replace h1 := cf h1
  refine tc tbk 3 (.mk ?_)
  refine nb tbk h1 fun x523 h1 => ?_
  refine tr tbk 2 (.mk ?_)
  cases x523
  replace h1 := cf h1
  refine tc tbk 3 (.mk ?_)
  refine nb tbk h1 fun x524 h1 => ?_
  refine tr tbk 2 (.mk ?_)
  cases x524
  replace h1 := cf h1
  refine tc tbk 3 (.mk ?_)
  refine nb tbk h1 fun x525 h1 => ?_
  refine tr tbk 2 (.mk ?_)
  cases x525
  replace h1 := cf h1
  refine tc tbk 3 (.mk ?_)
  refine nb tbk h1 fun x526 h1 => ?_
  refine tr tbk 2 (.mk ?_)
  cases x526
  replace h1 := cf h1
  refine tc tbk 3 (.mk ?_)
  refine nb tbk h1 fun x527 h1 => ?_
  refine tr tbk 2 (.mk ?_)
  cases x527
  replace h1 := cf h1
  refine tc tbk 3 (.mk ?_)
  refine nb tbk h1 fun x528 h1 => ?_
  refine tr tbk 2 (.mk ?_)
  cases x528
  replace h1 := cf h1
  refine tc tbk 3 (.mk ?_)
  refine nb tbk h1 fun x529 h1 => ?_
  refine tr tbk 2 (.mk ?_)
  cases x529
  replace h1 := cf h1
  refine tc tbk 5 (.mk ?_)
  refine ni tbk h1 fun x530 h1 => ?_
  refine rse rfl rfl rfl (yl_buildO (ps := [(0, _)]) 3 [[int x530]] .any rfl Try.underlying26 bz3 (.cons rfl .nil) (by kernel_rfl) rfl rfl rfl) ?_; rintro _ _ ⟨v531, -, rfl, rfl⟩
  obtain ⟨x532, e532, h1⟩ := bnd_e h1
  obtain ⟨p533, h1⟩ := asrt_e h1
  refine rse rfl rfl rfl (Yield.frz 3 rfl (yl_appT (g := fI) (l := ([] : List Int)) (m := ([x530] : List Int)) .any rfl Try.underlying26 bz3 by3 rfl rfl rfl rfl rfl rfl rfl rfl rfl rfl (Eq.symm rfl) (cv_lst rfl rfl rfl rfl rfl (Eq.symm rfl)) (fun _ => rfl) e532 p533)) ?_; rintro _ _ ⟨v534, -, rfl, rfl⟩
  refine tr tbk 1 (.mk ?_)
  refine sS ⟨28, 9, true, true, v515, [[int 2, int 0, int 0, int 0, int 0, int 1, int 0, int 0, .sl 5 v534 0 x532.length]]⟩ sh26 ?_
  refine tr tbk 2 (.mk ?_)
  exact lf h1 v534 leA
  replace h1 := ct h1
  refine tc tbk 3 (.mk ?_)
  refine ni tbk h1 fun x535 h1 => ?_
  refine tr tbk 1 (.mk ?_)
  refine sS ⟨28, 9, true, true, v515, [[int 2, int 0, int 0, int 0, int 0, int 1, int 0, int x535, .sl 5 v519 0 0]]⟩ sh3 ?_
  refine tr tbk 2 (.mk ?_)
  exact lf h1 v519 leA
  replace h1 := ct h1
  refine tc tbk 3 (.mk ?_)
  refine ni tbk h1 fun x536 h1 => ?_
  refine tr tbk 1 (.mk ?_)
  refine sS ⟨28, 9, true, true, v515, [[int 2, int 0, int 0, int 0, int 0, int 1, int x536, int 0, .sl 5 v519 0 0]]⟩ sh3 ?_
  refine tr tbk 2 (.mk ?_)
  exact lf h1 v519 leA
  replace h1 := ct h1
  refine tc tbk 3 (.mk ?_)
  refine ni tbk h1 fun x537 h1 => ?_
  refine tr tbk 1 (.mk ?_)
  refine sS ⟨28, 9, true, true, v515, [[int 2, int 0, int 0, int 0, int 0, int x537, int 0, int 0, .sl 5 v519 0 0]]⟩ sh3 ?_
  refine tr tbk 2 (.mk ?_)
  exact lf h1 v519 leA
  replace h1 := ct h1
  refine tc tbk 3 (.mk ?_)
  refine ni tbk h1 fun x538 h1 => ?_
  refine tr tbk 1 (.mk ?_)
  refine sS ⟨28, 9, true, true, v515, [[int 2, int 0, int 0, int 0, int x538, int 1, int 0, int 0, .sl 5 v519 0 0]]⟩ sh3 ?_
  refine tr tbk 2 (.mk ?_)
  exact lf h1 v519 leA
  replace h1 := ct h1
  refine tc tbk 3 (.mk ?_)
  refine ni tbk h1 fun x539 h1 => ?_
  refine tr tbk 1 (.mk ?_)
  refine sS ⟨28, 9, true, true, v515, [[int 2, int 0, int 0, int x539, int 0, int 1, int 0, int 0, .sl 5 v519 0 0]]⟩ sh3 ?_
  refine tr tbk 2 (.mk ?_)
  exact lf h1 v519 leA
  replace h1 := ct h1
  refine tc tbk 3 (.mk ?_)
  refine ni tbk h1 fun x540 h1 => ?_
  refine tr tbk 1 (.mk ?_)
  refine sS ⟨28, 9, true, true, v515, [[int 2, int 0, int x540, int 0, int 0, int 1, int 0, int 0, .sl 5 v519 0 0]]⟩ sh3 ?_
  refine tr tbk 2 (.mk ?_)
  exact lf h1 v519 leA
  replace h1 := ct h1
  refine tc tbk 3 (.mk ?_)
  refine ni tbk h1 fun x541 h1 => ?_
  refine tr tbk 1 (.mk ?_)
  refine sS ⟨28, 9, true, true, v515, [[int 2, int x541, int 0, int 0, int 0, int 1, int 0, int 0, .sl 5 v519 0 0]]⟩ sh3 ?_
  refine tr tbk 2 (.mk ?_)
  exact lf h1 v519 leA
  replace h1 := ct h1
  refine tc tbk 3 (.mk ?_)
  refine ni tbk h1 fun x542 h1 => ?_
  refine tr tbk 1 (.mk ?_)
  refine sS ⟨28, 9, true, true, v515, [[int x542, int 0, int 0, int 0, int 0, int 1, int 0, int 0, .sl 5 v519 0 0]]⟩ sh3 ?_
  refine tr tbk 2 (.mk ?_)
  exact lf h1 v519 leA
  replace h1 := ct h1
  refine tc tbk 3 (.mk ?_)
  refine ni tbk h1 fun x543 h1 => ?_
  refine tr tbk 1 (.mk ?_)
  refine sS ⟨28, 9, true, true, v515, [[int x543, int 0, int 0, int 0, int 0, int 1, int 0, int 0, .sl 5 v519 0 0]]⟩ sh3 ?_
  refine tr tbk 2 (.mk ?_)
  exact lf h1 v519 leA
  rintro ⟨y0_1, y0_2, y0_3, y0_4, y0_5, y0_6, y0_7, y0_8, y0_10⟩ w0_9 h0
  replace h0 := p2_e h0
  replace h0 := p2_e h0
  replace h0 := p2_e h0
  replace h0 := p2_e h0
  replace h0 := p2_e h0
  replace h0 := p2_e h0
  replace h0 := p2_e h0
  replace h0 := p2_e h0
  refine tc tbk 1 (.mk ?_)
  refine jn h0 [] [] (fun (a : Bool) (k : Unit) => [(6, boo a)]) (fun a k => []) ⟨fun j544 h1 => ?_, ?_⟩
  refine tc tbk 2 (.mk ?_)
  obtain ⟨x545, e545, h1⟩ := bind_e h1
  refine sY (yv_callT (v := boo x545) rfl rfl (.cons rfl .nil) cal8 (.cons (CvL.agg (.cons (.refl _) (.cons (.refl _) (.cons (.refl _) (.cons (.refl _) (.cons (.refl _) (.cons (.refl _) (.cons (.refl _) (.cons (.refl _) (.cons (cv_lst rfl rfl rfl rfl rfl (Eq.symm rfl)) .nil)))))))))) .nil) (d_ops_Check_c e545) rfl) ?_
  refine nb tbk h1 fun x546 h1 => ?_
  refine tr tbk 1 (.mk ?_)
  cases x546
  replace h1 := cf h1
  refine tr tbk 10 (.mk ?_)
  exact lf h1 () leA
  replace h1 := ct h1
  refine tr tbk 1 (.mk ?_)
  refine sY (yv_buildSlice (ps := [(0, _)]) (rows := [[int y0_1, int y0_2, int y0_3, int y0_4, int y0_5, int y0_6, int y0_7, int y0_8, .sl 5 w0_9 0 y0_10.length]]) rfl Try.underlying22 bz28 (.cons rfl .nil) (by kernel_rfl) rfl rfl rfl) ?_
  obtain ⟨x547, e547, h1⟩ := bind_e h1
  refine sY (yv_callT (v := str x547) rfl rfl (.cons rfl .nil) cal14 (.cons (CvLL.list (.cons (.cons (.refl _) (.cons (.refl _) (.cons (.refl _) (.cons (.refl _) (.cons (.refl _) (.cons (.refl _) (.cons (.refl _) (.cons (.refl _) (.cons (cv_lst rfl rfl rfl rfl rfl (Eq.symm rfl)) .nil))))))))) .nil)) .nil) (d_ops_Bytes_c e547) rfl) ?_
  obtain ⟨x548, e548, h1⟩ := bnd_e h1
  refine sY (yv_to (y := boo x548) (yv_seql rfl rfl rfl) (congrArg boo e548)) ?_
  refine tr tbk 2 (.mk ?_)
  cases x548
  replace h1 := cf h1
  refine tr tbk 4 (.mk ?_)
  exact lf h1 () leA
  replace h1 := ct h1
  obtain ⟨x549, e549, h1⟩ := bind_e h1
  refine sC cal7 (d_law05_awake_c e549) ?_
  refine tr tbk 3 (.mk ?_)
  exact lf h1 () leA
  rintro y1_1 _ h0
  obtain rfl := nxt_e h0
  refine wR hret (rT .nil) ?_
  exact .refl _
  replace h0 := ct h0
  refine rsas 35 (int 1) rfl (congrArg int (of_decide_eq_true e10)) ?_
  refine sY (yv_indexA rfl Try.underlying43 sh28 rfl rfl (by decide) rfl) ?_
  refine sA 2 z28 fun v550 => ?_
  refine sS ⟨28, 9, true, true, v550, [[int 1, int 0, int 0, int 0, int 0, int 1, int 0, int 0, .sc (.slice none 0 0)]]⟩ sh28 ?_
  refine tr tbk 5 (.mk ?_)
  obtain ⟨x551, e551, h0⟩ := bind_e h0
  refine sY (yv_callP rfl rfl (.cons rfl .nil) cal8 (.cons (CvL.agg (.cons (.refl _) (.cons (.refl _) (.cons (.refl _) (.cons (.refl _) (.cons (.refl _) (.cons (.refl _) (.cons (.refl _) (.cons (.refl _) (.cons (.nil _) .nil)))))))))) .nil) (d_ops_Check_c e551)) ?_
  refine nb tbk h0 fun x552 h0 => ?_
  refine tr tbk 1 (.mk ?_)
  replace h0 := asrt_e h0
  obtain ⟨rfl, h0⟩ := h0
  refine tc tbk 6 (.mk ?_)
  obtain ⟨x553, e553, h0⟩ := bind_e h0
  refine sC cal19 (d_law00_Place_c e553) ?_
  refine tr tbk 1 (.mk ?_)
  refine c_nilcell 2 0 8 5 3 1 (rows := fun v554 => [[int 1, int 0, int 0, int 0, int 0, int 1, int 0, int 0, .sl 5 v554 0 0]]) rfl rfl rfl rfl (fun _ => rfl) ?_; intro v554
  refine jn h0 [6, 9] [] (fun (a : Int × Int × Int × Int × Int × Int × Int × Int × (List Int)) (k : Nat) => []) (fun a k => [(2, ⟨28, 9, true, true, v550, [[int a.1, int a.2.1, int a.2.2.1, int a.2.2.2.1, int a.2.2.2.2.1, int a.2.2.2.2.2.1, int a.2.2.2.2.2.2.1, int a.2.2.2.2.2.2.2.1, .sl 5 k 0 a.2.2.2.2.2.2.2.2.length]]⟩), (5, ⟨3, 1, true, true, k, a.2.2.2.2.2.2.2.2.map fI⟩)]) ⟨fun j555 h1 => ?_, ?_⟩
  refine tc tbk 3 (.mk ?_)
  refine nb tbk h1 fun x556 h1 => ?_
  refine tr tbk 2 (.mk ?_)
  cases x556
  replace h1 := cf h1
  refine tc tbk 3 (.mk ?_)
  refine nb tbk h1 fun x557 h1 => ?_
  refine tr tbk 2 (.mk ?_)
  cases x557
  replace h1 := cf h1
  refine tc tbk 3 (.mk ?_)
  refine nb tbk h1 fun x558 h1 => ?_
  refine tr tbk 2 (.mk ?_)
  cases x558
  replace h1 := cf h1
  refine tc tbk 3 (.mk ?_)
  refine nb tbk h1 fun x559 h1 => ?_
  refine tr tbk 2 (.mk ?_)
  cases x559
  replace h1 := cf h1
  refine tc tbk 3 (.mk ?_)
  refine nb tbk h1 fun x560 h1 => ?_
  refine tr tbk 2 (.mk ?_)
  cases x560
  replace h1 := cf h1
  refine tc tbk 3 (.mk ?_)
  refine nb tbk h1 fun x561 h1 => ?_
  refine tr tbk 2 (.mk ?_)
  cases x561
  replace h1 := cf h1
  refine tc tbk 3 (.mk ?_)
  refine nb tbk h1 fun x562 h1 => ?_
  refine tr tbk 2 (.mk ?_)
  cases x562
  replace h1 := cf h1
  refine tc tbk 3 (.mk ?_)
  refine nb tbk h1 fun x563 h1 => ?_
  refine tr tbk 2 (.mk ?_)
  cases x563
  replace h1 := cf h1
  refine tc tbk 3 (.mk ?_)
  refine nb tbk h1 fun x564 h1 => ?_
  refine tr tbk 2 (.mk ?_)
  cases x564
  replace h1 := cf h1
  refine tc tbk 5 (.mk ?_)
  refine ni tbk h1 fun x565 h1 => ?_
  refine rse rfl rfl rfl (yl_buildO (ps := [(0, _)]) 3 [[int x565]] .any rfl Try.underlying26 bz3 (.cons rfl .nil) (by kernel_rfl) rfl rfl rfl) ?_; rintro _ _ ⟨v566, -, rfl, rfl⟩
  obtain ⟨x567, e567, h1⟩ := bnd_e h1
  obtain ⟨p568, h1⟩ := asrt_e h1
  refine rse rfl rfl rfl (Yield.frz 3 rfl (yl_appT (g := fI) (l := ([] : List Int)) (m := ([x565] : List Int)) .any rfl Try.underlying26 bz3 by3 rfl rfl rfl rfl rfl rfl rfl rfl rfl rfl (Eq.symm rfl) (cv_lst rfl rfl rfl rfl rfl (Eq.symm rfl)) (fun _ => rfl) e567 p568)) ?_; rintro _ _ ⟨v569, -, rfl, rfl⟩
  refine tr tbk 1 (.mk ?_)
  refine sS ⟨28, 9, true, true, v550, [[int 1, int 0, int 0, int 0, int 0, int 1, int 0, int 0, .sl 5 v569 0 x567.length]]⟩ sh26 ?_
  refine tr tbk 2 (.mk ?_)
  exact lf h1 v569 leA
  replace h1 := ct h1
  refine tc tbk 3 (.mk ?_)
  refine ni tbk h1 fun x570 h1 => ?_
  refine tr tbk 1 (.mk ?_)
  refine sS ⟨28, 9, true, true, v550, [[int 1, int 0, int 0, int 0, int 0, int 1, int 0, int x570, .sl 5 v554 0 0]]⟩ sh3 ?_
  refine tr tbk 2 (.mk ?_)
  exact lf h1 v554 leA
  replace h1 := ct h1
  refine tc tbk 3 (.mk ?_)
  refine ni tbk h1 fun x571 h1 => ?_
  refine tr tbk 1 (.mk ?_)
  refine sS ⟨28, 9, true, true, v550, [[int 1, int 0, int 0, int 0, int 0, int 1, int x571, int 0, .sl 5 v554 0 0]]⟩ sh3 ?_
  refine tr tbk 2 (.mk ?_)
  exact lf h1 v554 leA
  replace h1 := ct h1
  refine tc tbk 3 (.mk ?_)
  refine ni tbk h1 fun x572 h1 => ?_
  refine tr tbk 1 (.mk ?_)
  refine sS ⟨28, 9, true, true, v550, [[int 1, int 0, int 0, int 0, int 0, int x572, int 0, int 0, .sl 5 v554 0 0]]⟩ sh3 ?_
  refine tr tbk 2 (.mk ?_)
  exact lf h1 v554 leA
  replace h1 := ct h1
  refine tc tbk 3 (.mk ?_)
  refine ni tbk h1 fun x573 h1 => ?_
  refine tr tbk 1 (.mk ?_)
  refine sS ⟨28, 9, true, true, v550, [[int 1, int 0, int 0, int 0, int x573, int 1, int 0, int 0, .sl 5 v554 0 0]]⟩ sh3 ?_
  refine tr tbk 2 (.mk ?_)
  exact lf h1 v554 leA
  replace h1 := ct h1
  refine tc tbk 3 (.mk ?_)
  refine ni tbk h1 fun x574 h1 => ?_
  refine tr tbk 1 (.mk ?_)
  refine sS ⟨28, 9, true, true, v550, [[int 1, int 0, int 0, int x574, int 0, int 1, int 0, int 0, .sl 5 v554 0 0]]⟩ sh3 ?_
  refine tr tbk 2 (.mk ?_)
  exact lf h1 v554 leA
  replace h1 := ct h1
  refine tc tbk 3 (.mk ?_)
  refine ni tbk h1 fun x575 h1 => ?_
  refine tr tbk 1 (.mk ?_)
  refine sS ⟨28, 9, true, true, v550, [[int 1, int 0, int x575, int 0, int 0, int 1, int 0, int 0, .sl 5 v554 0 0]]⟩ sh3 ?_
  refine tr tbk 2 (.mk ?_)
  exact lf h1 v554 leA
  replace h1 := ct h1
  refine tc tbk 3 (.mk ?_)
  refine ni tbk h1 fun x576 h1 => ?_
  refine tr tbk 1 (.mk ?_)
  refine sS ⟨28, 9, true, true, v550, [[int 1, int x576, int 0, int 0, int 0, int 1, int 0, int 0, .sl 5 v554 0 0]]⟩ sh3 ?_
  refine tr tbk 2 (.mk ?_)
  exact lf h1 v554 leA
  replace h1 := ct h1
  refine tc tbk 3 (.mk ?_)
  refine ni tbk h1 fun x577 h1 => ?_
  refine tr tbk 1 (.mk ?_)
  refine sS ⟨28, 9, true, true, v550, [[int x577, int 0, int 0, int 0, int 0, int 1, int 0, int 0, .sl 5 v554 0 0]]⟩ sh3 ?_
  refine tr tbk 2 (.mk ?_)
  exact lf h1 v554 leA
  replace h1 := ct h1
  refine tc tbk 3 (.mk ?_)
  refine ni tbk h1 fun x578 h1 => ?_
  refine tr tbk 1 (.mk ?_)
  refine sS ⟨28, 9, true, true, v550, [[int x578, int 0, int 0, int 0, int 0, int 1, int 0, int 0, .sl 5 v554 0 0]]⟩ sh3 ?_
  refine tr tbk 2 (.mk ?_)
  exact lf h1 v554 leA
  rintro ⟨y0_1, y0_2, y0_3, y0_4, y0_5, y0_6, y0_7, y0_8, y0_10⟩ w0_9 h0
  replace h0 := p2_e h0
  replace h0 := p2_e h0
  replace h0 := p2_e h0
  replace h0 := p2_e h0
  replace h0 := p2_e h0
  replace h0 := p2_e h0
  replace h0 := p2_e h0
  replace h0 := p2_e h0
  refine tc tbk 1 (.mk ?_)
  refine jn h0 [] [] (fun (a : Bool) (k : Unit) => [(6, boo a)]) (fun a k => []) ⟨fun j579 h1 => ?_, ?_⟩
  refine tc tbk 2 (.mk ?_)
  obtain ⟨x580, e580, h1⟩ := bind_e h1
  refine sY (yv_callT (v := boo x580) rfl rfl (.cons rfl .nil) cal8 (.cons (CvL.agg (.cons (.refl _) (.cons (.refl _) (.cons (.refl _) (.cons (.refl _) (.cons (.refl _) (.cons (.refl _) (.cons (.refl _) (.cons (.refl _) (.cons (cv_lst rfl rfl rfl rfl rfl (Eq.symm rfl)) .nil)))))))))) .nil) (d_ops_Check_c e580) rfl) ?_
  refine nb tbk h1 fun x581 h1 => ?_
  refine tr tbk 1 (.mk ?_)
  cases x581
  replace h1 := cf h1
  refine tr tbk 10 (.mk ?_)
  exact lf h1 () leA
  replace h1 := ct h1
  refine tr tbk 1 (.mk ?_)
  refine sY (yv_buildSlice (ps := [(0, _)]) (rows := [[int y0_1, int y0_2, int y0_3, int y0_4, int y0_5, int y0_6, int y0_7, int y0_8, .sl 5 w0_9 0 y0_10.length]]) rfl Try.underlying22 bz28 (.cons rfl .nil) (by kernel_rfl) rfl rfl rfl) ?_
  obtain ⟨x582, e582, h1⟩ := bind_e h1
  refine sY (yv_callT (v := str x582) rfl rfl (.cons rfl .nil) cal14 (.cons (CvLL.list (.cons (.cons (.refl _) (.cons (.refl _) (.cons (.refl _) (.cons (.refl _) (.cons (.refl _) (.cons (.refl _) (.cons (.refl _) (.cons (.refl _) (.cons (cv_lst rfl rfl rfl rfl rfl (Eq.symm rfl)) .nil))))))))) .nil)) .nil) (d_ops_Bytes_c e582) rfl) ?_
  obtain ⟨x583, e583, h1⟩ := bnd_e h1
  refine sY (yv_to (y := boo x583) (yv_seql rfl rfl rfl) (congrArg boo e583)) ?_
  refine tr tbk 2 (.mk ?_)
  cases x583
  replace h1 := cf h1
  refine tr tbk 4 (.mk ?_)
  exact lf h1 () leA
  replace h1 := ct h1
  obtain ⟨x584, e584, h1⟩ := bind_e h1
  refine sC cal7 (d_law05_awake_c e584) ?_
  refine tr tbk 3 (.mk ?_)
  exact lf h1 () leA
  rintro y1_1 _ h0
  obtain rfl := nxt_e h0
  refine wR hret (rT .nil) ?_
  exact .refl _
  replace h0 := ct h0
  refine rsas 35 (int 0) rfl (congrArg int (of_decide_eq_true e9)) ?_
  refine sY (yv_indexA rfl Try.underlying43 sh28 rfl rfl (by decide) rfl) ?_
  refine sA 2 z28 fun v585 => ?_
  refine sS ⟨28, 9, true, true, v585, [[int 0, int 0, int 0, int 0, int 0, int 0, int 0, int 0, .sc (.slice none 0 0)]]⟩ sh28 ?_
  refine tr tbk 5 (.mk ?_)
  obtain ⟨x586, e586, h0⟩ := bind_e h0
  refine sY (yv_callP rfl rfl (.cons rfl .nil) cal8 (.cons (CvL.agg (.cons (.refl _) (.cons (.refl _) (.cons (.refl _) (.cons (.refl _) (.cons (.refl _) (.cons (.refl _) (.cons (.refl _) (.cons (.refl _) (.cons (.nil _) .nil)))))))))) .nil) (d_ops_Check_c e586)) ?_
  refine nb tbk h0 fun x587 h0 => ?_
  refine tr tbk 1 (.mk ?_)
  replace h0 := asrt_e h0
  obtain ⟨rfl, h0⟩ := h0
  refine tc tbk 6 (.mk ?_)
  obtain ⟨x588, e588, h0⟩ := bind_e h0
  refine sC cal19 (d_law00_Place_c e588) ?_
  refine tr tbk 1 (.mk ?_)
  refine c_nilcell 2 0 8 5 3 1 (rows := fun v589 => [[int 0, int 0, int 0, int 0, int 0, int 0, int 0, int 0, .sl 5 v589 0 0]]) rfl rfl rfl rfl (fun _ => rfl) ?_; intro v589
  refine jn h0 [6, 9] [] (fun (a : Int × Int × Int × Int × Int × Int × Int × Int × (List Int)) (k : Nat) => []) (fun a k => [(2, ⟨28, 9, true, true, v585, [[int a.1, int a.2.1, int a.2.2.1, int a.2.2.2.1, int a.2.2.2.2.1, int a.2.2.2.2.2.1, int a.2.2.2.2.2.2.1, int a.2.2.2.2.2.2.2.1, .sl 5 k 0 a.2.2.2.2.2.2.2.2.length]]⟩), (5, ⟨3, 1, true, true, k, a.2.2.2.2.2.2.2.2.map fI⟩)]) ⟨fun j590 h1 => ?_, ?_⟩
  refine tc tbk 3 (.mk ?_)
  refine nb tbk h1 fun x591 h1 => ?_
  refine tr tbk 2 (.mk ?_)
  cases x591
  replace h1 := cf h1
  refine tc tbk 3 (.mk ?_)
  refine nb tbk h1 fun x592 h1 => ?_
  refine tr tbk 2 (.mk ?_)
  cases x592
  replace h1 := cf h1
  refine tc tbk 3 (.mk ?_)
  refine nb tbk h1 fun x593 h1 => ?_
  refine tr tbk 2 (.mk ?_)
  cases x593
  replace h1 := cf h1
  refine tc tbk 3 (.mk ?_)
  refine nb tbk h1 fun x594 h1 => ?_
  refine tr tbk 2 (.mk ?_)
  cases x594
  replace h1 := cf h1
  refine tc tbk 3 (.mk ?_)
  refine nb tbk h1 fun x595 h1 => ?_
  refine tr tbk 2 (.mk ?_)
  cases x595
  replace h1 := cf h1
  refine tc tbk 3 (.mk ?_)
  refine nb tbk h1 fun x596 h1 => ?_
  refine tr tbk 2 (.mk ?_)
  cases x596
  replace h1 := cf h1
  refine tc tbk 3 (.mk ?_)
  refine nb tbk h1 fun x597 h1 => ?_
  refine tr tbk 2 (.mk ?_)
  cases x597
  replace h1 := cf h1
  refine tc tbk 3 (.mk ?_)
  refine nb tbk h1 fun x598 h1 => ?_
  refine tr tbk 2 (.mk ?_)
  cases x598
  replace h1 := cf h1
  refine tc tbk 3 (.mk ?_)
  refine nb tbk h1 fun x599 h1 => ?_
  refine tr tbk 2 (.mk ?_)
  cases x599
  replace h1 := cf h1
  refine tc tbk 5 (.mk ?_)
  refine ni tbk h1 fun x600 h1 => ?_
  refine rse rfl rfl rfl (yl_buildO (ps := [(0, _)]) 3 [[int x600]] .any rfl Try.underlying26 bz3 (.cons rfl .nil) (by kernel_rfl) rfl rfl rfl) ?_; rintro _ _ ⟨v601, -, rfl, rfl⟩
  obtain ⟨x602, e602, h1⟩ := bnd_e h1
  obtain ⟨p603, h1⟩ := asrt_e h1
  refine rse rfl rfl rfl (Yield.frz 3 rfl (yl_appT (g := fI) (l := ([] : List Int)) (m := ([x600] : List Int)) .any rfl Try.underlying26 bz3 by3 rfl rfl rfl rfl rfl rfl rfl rfl rfl rfl (Eq.symm rfl) (cv_lst rfl rfl rfl rfl rfl (Eq.symm rfl)) (fun _ => rfl) e602 p603)) ?_; rintro _ _ ⟨v604, -, rfl, rfl⟩
  refine tr tbk 1 (.mk ?_)
  refine sS ⟨28, 9, true, true, v585, [[int 0, int 0, int 0, int 0, int 0, int 0, int 0, int 0, .sl 5 v604 0 x602.length]]⟩ sh26 ?_
  refine tr tbk 2 (.mk ?_)
  exact lf h1 v604 leA
  replace h1 := ct h1
  refine tc tbk 3 (.mk ?_)
  refine ni tbk h1 fun x605 h1 => ?_
  refine tr tbk 1 (.mk ?_)
  refine sS ⟨28, 9, true, true, v585, [[int 0, int 0, int 0, int 0, int 0, int 0, int 0, int x605, .sl 5 v589 0 0]]⟩ sh3 ?_
  refine tr tbk 2 (.mk ?_)
  exact lf h1 v589 leA
  replace h1 := ct h1
  refine tc tbk 3 (.mk ?_)
  refine ni tbk h1 fun x606 h1 => ?_
  refine tr tbk 1 (.mk ?_)
  refine sS ⟨28, 9, true, true, v585, [[int 0, int 0, int 0, int 0, int 0, int 0, int x606, int 0, .sl 5 v589 0 0]]⟩ sh3 ?_
  refine tr tbk 2 (.mk ?_)
  exact lf h1 v589 leA
  replace h1 := ct h1
  refine tc tbk 3 (.mk ?_)
  refine ni tbk h1 fun x607 h1 => ?_
  refine tr tbk 1 (.mk ?_)
  refine sS ⟨28, 9, true, true, v585, [[int 0, int 0, int 0, int 0, int 0, int x607, int 0, int 0, .sl 5 v589 0 0]]⟩ sh3 ?_
  refine tr tbk 2 (.mk ?_)
  exact lf h1 v589 leA
  replace h1 := ct h1
  refine tc tbk 3 (.mk ?_)
  refine ni tbk h1 fun x608 h1 => ?_
  refine tr tbk 1 (.mk ?_)
  refine sS ⟨28, 9, true, true, v585, [[int 0, int 0, int 0, int 0, int x608, int 0, int 0, int 0, .sl 5 v589 0 0]]⟩ sh3 ?_
  refine tr tbk 2 (.mk ?_)
  exact lf h1 v589 leA
  replace h1 := ct h1
  refine tc tbk 3 (.mk ?_)
  refine ni tbk h1 fun x609 h1 => ?_
  refine tr tbk 1 (.mk ?_)
  refine sS ⟨28, 9, true, true, v585, [[int 0, int 0, int 0, int x609, int 0, int 0, int 0, int 0, .sl 5 v589 0 0]]⟩ sh3 ?_
  refine tr tbk 2 (.mk ?_)
  exact lf h1 v589 leA
  replace h1 := ct h1
  refine tc tbk 3 (.mk ?_)
  refine ni tbk h1 fun x610 h1 => ?_
  refine tr tbk 1 (.mk ?_)
  refine sS ⟨28, 9, true, true, v585, [[int 0, int 0, int x610, int 0, int 0, int 0, int 0, int 0, .sl 5 v589 0 0]]⟩ sh3 ?_
  refine tr tbk 2 (.mk ?_)
  exact lf h1 v589 leA
  replace h1 := ct h1
  refine tc tbk 3 (.mk ?_)
  refine ni tbk h1 fun x611 h1 => ?_
  refine tr tbk 1 (.mk ?_)
  refine sS ⟨28, 9, true, true, v585, [[int 0, int x611, int 0, int 0, int 0, int 0, int 0, int 0, .sl 5 v589 0 0]]⟩ sh3 ?_
  refine tr tbk 2 (.mk ?_)
  exact lf h1 v589 leA
  replace h1 := ct h1
  refine tc tbk 3 (.mk ?_)
  refine ni tbk h1 fun x612 h1 => ?_
  refine tr tbk 1 (.mk ?_)
  refine sS ⟨28, 9, true, true, v585, [[int x612, int 0, int 0, int 0, int 0, int 0, int 0, int 0, .sl 5 v589 0 0]]⟩ sh3 ?_
  refine tr tbk 2 (.mk ?_)
  exact lf h1 v589 leA
  replace h1 := ct h1
  refine tc tbk 3 (.mk ?_)
  refine ni tbk h1 fun x613 h1 => ?_
  refine tr tbk 1 (.mk ?_)
  refine sS ⟨28, 9, true, true, v585, [[int x613, int 0, int 0, int 0, int 0, int 0, int 0, int 0, .sl 5 v589 0 0]]⟩ sh3 ?_
  refine tr tbk 2 (.mk ?_)
  exact lf h1 v589 leA
  rintro ⟨y0_1, y0_2, y0_3, y0_4, y0_5, y0_6, y0_7, y0_8, y0_10⟩ w0_9 h0
  replace h0 := p2_e h0
  replace h0 := p2_e h0
  replace h0 := p2_e h0
  replace h0 := p2_e h0
  replace h0 := p2_e h0
  replace h0 := p2_e h0
  replace h0 := p2_e h0
  replace h0 := p2_e h0
  refine tc tbk 1 (.mk ?_)
  refine jn h0 [] [] (fun (a : Bool) (k : Unit) => [(6, boo a)]) (fun a k => []) ⟨fun j614 h1 => ?_, ?_⟩
  refine tc tbk 2 (.mk ?_)
  obtain ⟨x615, e615, h1⟩ := bind_e h1
  refine sY (yv_callT (v := boo x615) rfl rfl (.cons rfl .nil) cal8 (.cons (CvL.agg (.cons (.refl _) (.cons (.refl _) (.cons (.refl _) (.cons (.refl _) (.cons (.refl _) (.cons (.refl _) (.cons (.refl _) (.cons (.refl _) (.cons (cv_lst rfl rfl rfl rfl rfl (Eq.symm rfl)) .nil)))))))))) .nil) (d_ops_Check_c e615) rfl) ?_
  refine nb tbk h1 fun x616 h1 => ?_
  refine tr tbk 1 (.mk ?_)
  cases x616
  replace h1 := cf h1
  refine tr tbk 10 (.mk ?_)
  exact lf h1 () leA
  replace h1 := ct h1
  refine tr tbk 1 (.mk ?_)
  refine sY (yv_buildSlice (ps := [(0, _)]) (rows := [[int y0_1, int y0_2, int y0_3, int y0_4, int y0_5, int y0_6, int y0_7, int y0_8, .sl 5 w0_9 0 y0_10.length]]) rfl Try.underlying22 bz28 (.cons rfl .nil) (by kernel_rfl) rfl rfl rfl) ?_
  obtain ⟨x617, e617, h1⟩ := bind_e h1
  refine sY (yv_callT (v := str x617) rfl rfl (.cons rfl .nil) cal14 (.cons (CvLL.list (.cons (.cons (.refl _) (.cons (.refl _) (.cons (.refl _) (.cons (.refl _) (.cons (.refl _) (.cons (.refl _) (.cons (.refl _) (.cons (.refl _) (.cons (cv_lst rfl rfl rfl rfl rfl (Eq.symm rfl)) .nil))))))))) .nil)) .nil) (d_ops_Bytes_c e617) rfl) ?_
  obtain ⟨x618, e618, h1⟩ := bnd_e h1
  refine sY (yv_to (y := boo x618) (yv_seql rfl rfl rfl) (congrArg boo e618)) ?_
  refine tr tbk 2 (.mk ?_)
  cases x618
  replace h1 := cf h1
  refine tr tbk 4 (.mk ?_)
  exact lf h1 () leA
  replace h1 := ct h1
  obtain ⟨x619, e619, h1⟩ := bind_e h1
  refine sC cal7 (d_law05_awake_c e619) ?_
  refine tr tbk 3 (.mk ?_)
  exact lf h1 () leA
  rintro y1_1 _ h0
  obtain rfl := nxt_e h0
  refine wR hret (rT .nil) ?_
  exact .refl _
end Go.Pv
