import Derived.Test.YtpbcnilkippahaaK55
set_option linter.unusedVariables false
namespace Go.Pv
open Go.Proofs
set_option maxRecDepth 10000
set_option maxHeartbeats 1000000
def d_ops_Read_L0 (x6 : Int) : Nat → Int → GReader → (List GOp) → Option ((GReader × (List GOp)) ⊕ ((List GOp) × Int))
  | 0, _, _, _ => none
  | n + 1, y1_2, y1_3, y1_4 =>
    bnd (decide (y1_2 < x6)) fun x10 =>
    cond x10 ((show Option ((GReader × (List GOp)) ⊕ ((GReader × (List GOp)) ⊕ ((List GOp) × Int))) from
    asrt (((y1_3.s, y1_3.bad) : RS).1.length ≤ 9223372036854775806) <|
    bnd (cntV ((y1_3.s, y1_3.bad) : RS) 16) fun x13 =>
    bnd (cntR ((y1_3.s, y1_3.bad) : RS) 16) fun x14 =>
    bnd (decide (x13 = 0)) fun x16 =>
    cond x16 ((show Option (Bool) from
    bnd x14.2 fun x403 =>
    cond x403 (some (true : Bool)) ((d_ops_Check n (⟨x13, 0, 0, 0, 0, 0, 0, 0, []⟩ : GOp)).bind fun x404 =>
    bnd (!x404) fun x405 =>
    some (x405 : Bool))).bind <| fun y3_1 =>
    cond y3_1 (esc (esc (some (([] : List GOp), (3 : Int))))) (bnd (y1_4 ++ [(⟨x13, 0, 0, 0, 0, 0, 0, 0, []⟩ : GOp)]) fun x406 =>
    asrt (x406.length ≤ 68719476736) <|
    brk (((⟨x14.1, x14.2⟩ : GReader) : GReader), (x406 : List GOp)))) (bnd (decide (x13 = 1)) fun x17 =>
    cond x17 ((show Option ((Unit)) from
    some ()).bind <| fun _ =>
    asrt (x14.1.length ≤ 9223372036854775806) <|
    bnd (numV x14) fun x374 =>
    bnd (numR x14) fun x375 =>
    (show Option ((Unit)) from
    some ()).bind <| fun _ =>
    asrt (x375.1.length ≤ 9223372036854775806) <|
    bnd (numV x375) fun x378 =>
    bnd (numR x375) fun x379 =>
    (show Option ((Unit)) from
    some ()).bind <| fun _ =>
    asrt (x379.1.length ≤ 9223372036854775806) <|
    bnd (numV x379) fun x382 =>
    bnd (numR x379) fun x383 =>
    (show Option ((Unit)) from
    some ()).bind <| fun _ =>
    asrt (x383.1.length ≤ 9223372036854775806) <|
    bnd (numV x383) fun x386 =>
    bnd (numR x383) fun x387 =>
    (show Option ((Unit)) from
    some ()).bind <| fun _ =>
    asrt (x387.1.length ≤ 9223372036854775806) <|
    bnd (numV x387) fun x390 =>
    bnd (numR x387) fun x391 =>
    (show Option (Bool) from
    bnd x391.2 fun x393 =>
    cond x393 (some (true : Bool)) ((d_ops_Check n (⟨x13, x374, x378, x382, 0, x386, x390, 0, []⟩ : GOp)).bind fun x394 =>
    bnd (!x394) fun x395 =>
    some (x395 : Bool))).bind <| fun y3_1 =>
    cond y3_1 (esc (esc (some (([] : List GOp), (3 : Int))))) (bnd (y1_4 ++ [(⟨x13, x374, x378, x382, 0, x386, x390, 0, []⟩ : GOp)]) fun x396 =>
    asrt (x396.length ≤ 68719476736) <|
    brk (((⟨x391.1, x391.2⟩ : GReader) : GReader), (x396 : List GOp)))) (bnd (decide (x13 = 2)) fun x18 =>
    cond x18 ((show Option ((Unit)) from
    some ()).bind <| fun _ =>
    asrt (x14.1.length ≤ 9223372036854775806) <|
    bnd (numV x14) fun x352 =>
    bnd (numR x14) fun x353 =>
    (show Option ((Unit)) from
    some ()).bind <| fun _ =>
    asrt (x353.1.length ≤ 9223372036854775806) <|
    bnd (numV x353) fun x356 =>
    bnd (numR x353) fun x357 =>
    (show Option ((Unit)) from
    some ()).bind <| fun _ =>
    asrt (x357.1.length ≤ 9223372036854775806) <|
    bnd (numV x357) fun x360 =>
    bnd (numR x357) fun x361 =>
    (show Option (Bool) from
    bnd x361.2 fun x363 =>
    cond x363 (some (true : Bool)) ((d_ops_Check n (⟨x13, 0, 0, 0, 0, x352, x356, x360, []⟩ : GOp)).bind fun x364 =>
    bnd (!x364) fun x365 =>
    some (x365 : Bool))).bind <| fun y3_1 =>
    cond y3_1 (esc (esc (some (([] : List GOp), (3 : Int))))) (bnd (y1_4 ++ [(⟨x13, 0, 0, 0, 0, x352, x356, x360, []⟩ : GOp)]) fun x366 =>
    asrt (x366.length ≤ 68719476736) <|
    brk (((⟨x361.1, x361.2⟩ : GReader) : GReader), (x366 : List GOp)))) (bnd (decide (x13 = 3)) fun x19 =>
    cond x19 ((show Option ((Unit)) from
    some ()).bind <| fun _ =>
    asrt (x14.1.length ≤ 9223372036854775806) <|
    bnd (numV x14) fun x334 =>
    bnd (numR x14) fun x335 =>
    (show Option ((Unit)) from
    some ()).bind <| fun _ =>
    asrt (x335.1.length ≤ 9223372036854775806) <|
    bnd (numV x335) fun x338 =>
    bnd (numR x335) fun x339 =>
    (show Option (Bool) from
    bnd x339.2 fun x341 =>
    cond x341 (some (true : Bool)) ((d_ops_Check n (⟨x13, 0, 0, 0, 0, x334, 0, x338, []⟩ : GOp)).bind fun x342 =>
    bnd (!x342) fun x343 =>
    some (x343 : Bool))).bind <| fun y3_1 =>
    cond y3_1 (esc (esc (some (([] : List GOp), (3 : Int))))) (bnd (y1_4 ++ [(⟨x13, 0, 0, 0, 0, x334, 0, x338, []⟩ : GOp)]) fun x344 =>
    asrt (x344.length ≤ 68719476736) <|
    brk (((⟨x339.1, x339.2⟩ : GReader) : GReader), (x344 : List GOp)))) (bnd (decide (x13 = 4)) fun x20 =>
    cond x20 ((show Option ((Unit)) from
    some ()).bind <| fun _ =>
    asrt (x14.1.length ≤ 9223372036854775806) <|
    bnd (numV x14) fun x304 =>
    bnd (numR x14) fun x305 =>
    (show Option ((Unit)) from
    some ()).bind <| fun _ =>
    asrt (x305.1.length ≤ 9223372036854775806) <|
    bnd (numV x305) fun x308 =>
    bnd (numR x305) fun x309 =>
    (show Option ((Unit)) from
    some ()).bind <| fun _ =>
    asrt (x309.1.length ≤ 9223372036854775806) <|
    bnd (numV x309) fun x312 =>
    bnd (numR x309) fun x313 =>
    (show Option ((Unit)) from
    some ()).bind <| fun _ =>
    asrt (x313.1.length ≤ 9223372036854775806) <|
    bnd (numV x313) fun x316 =>
    bnd (numR x313) fun x317 =>
    (show Option ((Unit)) from
    some ()).bind <| fun _ =>
    asrt (x317.1.length ≤ 9223372036854775806) <|
    bnd (numV x317) fun x320 =>
    bnd (numR x317) fun x321 =>
    (show Option (Bool) from
    bnd x321.2 fun x323 =>
    cond x323 (some (true : Bool)) ((d_ops_Check n (⟨x13, x304, x308, x312, 0, x316, x320, 0, []⟩ : GOp)).bind fun x324 =>
    bnd (!x324) fun x325 =>
    some (x325 : Bool))).bind <| fun y3_1 =>
    cond y3_1 (esc (esc (some (([] : List GOp), (3 : Int))))) (bnd (y1_4 ++ [(⟨x13, x304, x308, x312, 0, x316, x320, 0, []⟩ : GOp)]) fun x326 =>
    asrt (x326.length ≤ 68719476736) <|
    brk (((⟨x321.1, x321.2⟩ : GReader) : GReader), (x326 : List GOp)))) (bnd (decide (x13 = 5)) fun x21 =>
    cond x21 ((show Option ((Unit)) from
    some ()).bind <| fun _ =>
    asrt (x14.1.length ≤ 9223372036854775806) <|
    bnd (numV x14) fun x282 =>
    bnd (numR x14) fun x283 =>
    (show Option ((Unit)) from
    some ()).bind <| fun _ =>
    asrt (x283.1.length ≤ 9223372036854775806) <|
    bnd (numV x283) fun x286 =>
    bnd (numR x283) fun x287 =>
    (show Option ((Unit)) from
    some ()).bind <| fun _ =>
    asrt (x287.1.length ≤ 9223372036854775806) <|
    bnd (numV x287) fun x290 =>
    bnd (numR x287) fun x291 =>
    (show Option (Bool) from
    bnd x291.2 fun x293 =>
    cond x293 (some (true : Bool)) ((d_ops_Check n (⟨x13, 0, 0, 0, 0, x282, x286, x290, []⟩ : GOp)).bind fun x294 =>
    bnd (!x294) fun x295 =>
    some (x295 : Bool))).bind <| fun y3_1 =>
    cond y3_1 (esc (esc (some (([] : List GOp), (3 : Int))))) (bnd (y1_4 ++ [(⟨x13, 0, 0, 0, 0, x282, x286, x290, []⟩ : GOp)]) fun x296 =>
    asrt (x296.length ≤ 68719476736) <|
    brk (((⟨x291.1, x291.2⟩ : GReader) : GReader), (x296 : List GOp)))) (bnd (decide (x13 = 6)) fun x22 =>
    cond x22 ((show Option ((Unit)) from
    some ()).bind <| fun _ =>
    asrt (x14.1.length ≤ 9223372036854775806) <|
    bnd (numV x14) fun x256 =>
    bnd (numR x14) fun x257 =>
    (show Option ((Unit)) from
    some ()).bind <| fun _ =>
    asrt (x257.1.length ≤ 9223372036854775806) <|
    bnd (numV x257) fun x260 =>
    bnd (numR x257) fun x261 =>
    (show Option ((Unit)) from
    some ()).bind <| fun _ =>
    asrt (x261.1.length ≤ 9223372036854775806) <|
    bnd (numV x261) fun x264 =>
    bnd (numR x261) fun x265 =>
    (show Option ((Unit)) from
    some ()).bind <| fun _ =>
    asrt (x265.1.length ≤ 9223372036854775806) <|
    bnd (numV x265) fun x268 =>
    bnd (numR x265) fun x269 =>
    (show Option (Bool) from
    bnd x269.2 fun x271 =>
    cond x271 (some (true : Bool)) ((d_ops_Check n (⟨x13, x256, x260, x264, 0, x268, 0, 0, []⟩ : GOp)).bind fun x272 =>
    bnd (!x272) fun x273 =>
    some (x273 : Bool))).bind <| fun y3_1 =>
    cond y3_1 (esc (esc (some (([] : List GOp), (3 : Int))))) (bnd (y1_4 ++ [(⟨x13, x256, x260, x264, 0, x268, 0, 0, []⟩ : GOp)]) fun x274 =>
    asrt (x274.length ≤ 68719476736) <|
    brk (((⟨x269.1, x269.2⟩ : GReader) : GReader), (x274 : List GOp)))) (bnd (decide (x13 = 7)) fun x23 =>
    cond x23 ((show Option ((Unit)) from
    some ()).bind <| fun _ =>
    asrt (x14.1.length ≤ 9223372036854775806) <|
    bnd (numV x14) fun x230 =>
    bnd (numR x14) fun x231 =>
    (show Option ((Unit)) from
    some ()).bind <| fun _ =>
    asrt (x231.1.length ≤ 9223372036854775806) <|
    bnd (numV x231) fun x234 =>
    bnd (numR x231) fun x235 =>
    (show Option ((Unit)) from
    some ()).bind <| fun _ =>
    asrt (x235.1.length ≤ 9223372036854775806) <|
    bnd (numV x235) fun x238 =>
    bnd (numR x235) fun x239 =>
    (show Option ((Unit)) from
    some ()).bind <| fun _ =>
    asrt (x239.1.length ≤ 9223372036854775806) <|
    bnd (numV x239) fun x242 =>
    bnd (numR x239) fun x243 =>
    (show Option (Bool) from
    bnd x243.2 fun x245 =>
    cond x245 (some (true : Bool)) ((d_ops_Check n (⟨x13, x230, x234, x238, 0, x242, 0, 0, []⟩ : GOp)).bind fun x246 =>
    bnd (!x246) fun x247 =>
    some (x247 : Bool))).bind <| fun y3_1 =>
    cond y3_1 (esc (esc (some (([] : List GOp), (3 : Int))))) (bnd (y1_4 ++ [(⟨x13, x230, x234, x238, 0, x242, 0, 0, []⟩ : GOp)]) fun x248 =>
    asrt (x248.length ≤ 68719476736) <|
    brk (((⟨x243.1, x243.2⟩ : GReader) : GReader), (x248 : List GOp)))) (bnd (decide (x13 = 8)) fun x24 =>
    cond x24 ((show Option ((Unit)) from
    some ()).bind <| fun _ =>
    asrt (x14.1.length ≤ 9223372036854775806) <|
    bnd (numV x14) fun x200 =>
    bnd (numR x14) fun x201 =>
    (show Option ((Unit)) from
    some ()).bind <| fun _ =>
    asrt (x201.1.length ≤ 9223372036854775806) <|
    bnd (numV x201) fun x204 =>
    bnd (numR x201) fun x205 =>
    (show Option ((Unit)) from
    some ()).bind <| fun _ =>
    asrt (x205.1.length ≤ 9223372036854775806) <|
    bnd (numV x205) fun x208 =>
    bnd (numR x205) fun x209 =>
    (show Option ((Unit)) from
    some ()).bind <| fun _ =>
    asrt (x209.1.length ≤ 9223372036854775806) <|
    bnd (numV x209) fun x212 =>
    bnd (numR x209) fun x213 =>
    (show Option ((Unit)) from
    some ()).bind <| fun _ =>
    asrt (x213.1.length ≤ 9223372036854775806) <|
    bnd (numV x213) fun x216 =>
    bnd (numR x213) fun x217 =>
    (show Option (Bool) from
    bnd x217.2 fun x219 =>
    cond x219 (some (true : Bool)) ((d_ops_Check n (⟨x13, x200, x204, x208, x212, x216, 0, 0, []⟩ : GOp)).bind fun x220 =>
    bnd (!x220) fun x221 =>
    some (x221 : Bool))).bind <| fun y3_1 =>
    cond y3_1 (esc (esc (some (([] : List GOp), (3 : Int))))) (bnd (y1_4 ++ [(⟨x13, x200, x204, x208, x212, x216, 0, 0, []⟩ : GOp)]) fun x222 =>
    asrt (x222.length ≤ 68719476736) <|
    brk (((⟨x217.1, x217.2⟩ : GReader) : GReader), (x222 : List GOp)))) (bnd (decide (x13 = 9)) fun x25 =>
    cond x25 ((show Option ((Unit)) from
    some ()).bind <| fun _ =>
    asrt (x14.1.length ≤ 9223372036854775806) <|
    bnd (numV x14) fun x178 =>
    bnd (numR x14) fun x179 =>
    (show Option ((Unit)) from
    some ()).bind <| fun _ =>
    asrt (x179.1.length ≤ 9223372036854775806) <|
    bnd (numV x179) fun x182 =>
    bnd (numR x179) fun x183 =>
    (show Option ((Unit)) from
    some ()).bind <| fun _ =>
    asrt (x183.1.length ≤ 9223372036854775806) <|
    bnd (numV x183) fun x186 =>
    bnd (numR x183) fun x187 =>
    (show Option (Bool) from
    bnd x187.2 fun x189 =>
    cond x189 (some (true : Bool)) ((d_ops_Check n (⟨x13, x178, x182, 0, 0, 0, x186, 0, []⟩ : GOp)).bind fun x190 =>
    bnd (!x190) fun x191 =>
    some (x191 : Bool))).bind <| fun y3_1 =>
    cond y3_1 (esc (esc (some (([] : List GOp), (3 : Int))))) (bnd (y1_4 ++ [(⟨x13, x178, x182, 0, 0, 0, x186, 0, []⟩ : GOp)]) fun x192 =>
    asrt (x192.length ≤ 68719476736) <|
    brk (((⟨x187.1, x187.2⟩ : GReader) : GReader), (x192 : List GOp)))) (bnd (decide (x13 = 10)) fun x26 =>
    cond x26 ((show Option ((Unit)) from
    some ()).bind <| fun _ =>
    asrt (x14.1.length ≤ 9223372036854775806) <|
    bnd (numV x14) fun x156 =>
    bnd (numR x14) fun x157 =>
    (show Option ((Unit)) from
    some ()).bind <| fun _ =>
    asrt (x157.1.length ≤ 9223372036854775806) <|
    bnd (numV x157) fun x160 =>
    bnd (numR x157) fun x161 =>
    (show Option ((Unit)) from
    some ()).bind <| fun _ =>
    asrt (x161.1.length ≤ 9223372036854775806) <|
    bnd (numV x161) fun x164 =>
    bnd (numR x161) fun x165 =>
    (show Option (Bool) from
    bnd x165.2 fun x167 =>
    cond x167 (some (true : Bool)) ((d_ops_Check n (⟨x13, x156, x160, 0, 0, 0, x164, 0, []⟩ : GOp)).bind fun x168 =>
    bnd (!x168) fun x169 =>
    some (x169 : Bool))).bind <| fun y3_1 =>
    cond y3_1 (esc (esc (some (([] : List GOp), (3 : Int))))) (bnd (y1_4 ++ [(⟨x13, x156, x160, 0, 0, 0, x164, 0, []⟩ : GOp)]) fun x170 =>
    asrt (x170.length ≤ 68719476736) <|
    brk (((⟨x165.1, x165.2⟩ : GReader) : GReader), (x170 : List GOp)))) (bnd (decide (x13 = 11)) fun x27 =>
    cond x27 ((show Option ((Unit)) from
    some ()).bind <| fun _ =>
    asrt (x14.1.length ≤ 9223372036854775806) <|
    bnd (numV x14) fun x134 =>
    bnd (numR x14) fun x135 =>
    (show Option ((Unit)) from
    some ()).bind <| fun _ =>
    asrt (x135.1.length ≤ 9223372036854775806) <|
    bnd (numV x135) fun x138 =>
    bnd (numR x135) fun x139 =>
    asrt (x139.1.length ≤ 1099511627776) <|
    asrt (x139.2 = true → x139.1 = []) <|
    bnd (lstV x139 40) fun x142 =>
    bnd (lstR x139 40) fun x143 =>
    (show Option (Bool) from
    bnd x143.2 fun x145 =>
    cond x145 (some (true : Bool)) ((d_ops_Check n (⟨x13, 0, 0, 0, x134, 0, x138, 0, x142⟩ : GOp)).bind fun x146 =>
    bnd (!x146) fun x147 =>
    some (x147 : Bool))).bind <| fun y3_1 =>
    cond y3_1 (esc (esc (some (([] : List GOp), (3 : Int))))) (bnd (y1_4 ++ ([(⟨x13, 0, 0, 0, x134, 0, x138, 0, x142⟩ : GOp)] : List GOp)) fun x148 =>
    asrt (x148.length ≤ 68719476736) <|
    brk (((⟨x143.1, x143.2⟩ : GReader) : GReader), (x148 : List GOp)))) (bnd (decide (x13 = 12)) fun x28 =>
    cond x28 ((show Option ((Unit)) from
    some ()).bind <| fun _ =>
    asrt (x14.1.length ≤ 9223372036854775806) <|
    bnd (numV x14) fun x100 =>
    bnd (numR x14) fun x101 =>
    (show Option ((Unit)) from
    some ()).bind <| fun _ =>
    asrt (x101.1.length ≤ 9223372036854775806) <|
    bnd (numV x101) fun x104 =>
    bnd (numR x101) fun x105 =>
    (show Option ((Unit)) from
    some ()).bind <| fun _ =>
    asrt (x105.1.length ≤ 9223372036854775806) <|
    bnd (numV x105) fun x108 =>
    bnd (numR x105) fun x109 =>
    (show Option ((Unit)) from
    some ()).bind <| fun _ =>
    asrt (x109.1.length ≤ 9223372036854775806) <|
    bnd (numV x109) fun x112 =>
    bnd (numR x109) fun x113 =>
    (show Option ((Unit)) from
    some ()).bind <| fun _ =>
    asrt (x113.1.length ≤ 9223372036854775806) <|
    bnd (numV x113) fun x116 =>
    bnd (numR x113) fun x117 =>
    (show Option ((Unit)) from
    some ()).bind <| fun _ =>
    asrt (x117.1.length ≤ 9223372036854775806) <|
    bnd (numV x117) fun x120 =>
    bnd (numR x117) fun x121 =>
    (show Option (Bool) from
    bnd x121.2 fun x123 =>
    cond x123 (some (true : Bool)) ((d_ops_Check n (⟨x13, x100, x104, x108, x112, x116, x120, 0, []⟩ : GOp)).bind fun x124 =>
    bnd (!x124) fun x125 =>
    some (x125 : Bool))).bind <| fun y3_1 =>
    cond y3_1 (esc (esc (some (([] : List GOp), (3 : Int))))) (bnd (y1_4 ++ [(⟨x13, x100, x104, x108, x112, x116, x120, 0, []⟩ : GOp)]) fun x126 =>
    asrt (x126.length ≤ 68719476736) <|
    brk (((⟨x121.1, x121.2⟩ : GReader) : GReader), (x126 : List GOp)))) (bnd (decide (x13 = 13)) fun x29 =>
    cond x29 ((show Option ((Unit)) from
    some ()).bind <| fun _ =>
    asrt (x14.1.length ≤ 9223372036854775806) <|
    bnd (numV x14) fun x78 =>
    bnd (numR x14) fun x79 =>
    (show Option ((Unit)) from
    some ()).bind <| fun _ =>
    asrt (x79.1.length ≤ 9223372036854775806) <|
    bnd (numV x79) fun x82 =>
    bnd (numR x79) fun x83 =>
    (show Option ((Unit)) from
    some ()).bind <| fun _ =>
    asrt (x83.1.length ≤ 9223372036854775806) <|
    bnd (numV x83) fun x86 =>
    bnd (numR x83) fun x87 =>
    (show Option (Bool) from
    bnd x87.2 fun x89 =>
    cond x89 (some (true : Bool)) ((d_ops_Check n (⟨x13, 0, 0, x78, 0, x82, 0, x86, []⟩ : GOp)).bind fun x90 =>
    bnd (!x90) fun x91 =>
    some (x91 : Bool))).bind <| fun y3_1 =>
    cond y3_1 (esc (esc (some (([] : List GOp), (3 : Int))))) (bnd (y1_4 ++ [(⟨x13, 0, 0, x78, 0, x82, 0, x86, []⟩ : GOp)]) fun x92 =>
    asrt (x92.length ≤ 68719476736) <|
    brk (((⟨x87.1, x87.2⟩ : GReader) : GReader), (x92 : List GOp)))) (bnd (decide (x13 = 14)) fun x30 =>
    cond x30 ((show Option ((Unit)) from
    some ()).bind <| fun _ =>
    asrt (x14.1.length ≤ 9223372036854775806) <|
    bnd (numV x14) fun x64 =>
    bnd (numR x14) fun x65 =>
    (show Option (Bool) from
    bnd x65.2 fun x67 =>
    cond x67 (some (true : Bool)) ((d_ops_Check n (⟨x13, x64, 0, 0, 0, 0, 0, 0, []⟩ : GOp)).bind fun x68 =>
    bnd (!x68) fun x69 =>
    some (x69 : Bool))).bind <| fun y3_1 =>
    cond y3_1 (esc (esc (some (([] : List GOp), (3 : Int))))) (bnd (y1_4 ++ [(⟨x13, x64, 0, 0, 0, 0, 0, 0, []⟩ : GOp)]) fun x70 =>
    asrt (x70.length ≤ 68719476736) <|
    brk (((⟨x65.1, x65.2⟩ : GReader) : GReader), (x70 : List GOp)))) (bnd (decide (x13 = 15)) fun x31 =>
    cond x31 ((show Option ((Unit)) from
    some ()).bind <| fun _ =>
    asrt (x14.1.length ≤ 9223372036854775806) <|
    bnd (numV x14) fun x50 =>
    bnd (numR x14) fun x51 =>
    (show Option (Bool) from
    bnd x51.2 fun x53 =>
    cond x53 (some (true : Bool)) ((d_ops_Check n (⟨x13, x50, 0, 0, 0, 0, 0, 0, []⟩ : GOp)).bind fun x54 =>
    bnd (!x54) fun x55 =>
    some (x55 : Bool))).bind <| fun y3_1 =>
    cond y3_1 (esc (esc (some (([] : List GOp), (3 : Int))))) (bnd (y1_4 ++ [(⟨x13, x50, 0, 0, 0, 0, 0, 0, []⟩ : GOp)]) fun x56 =>
    asrt (x56.length ≤ 68719476736) <|
    brk (((⟨x51.1, x51.2⟩ : GReader) : GReader), (x56 : List GOp)))) (asrt (x13 = 16) <|
    (show Option ((Unit)) from
    some ()).bind <| fun _ =>
    asrt (x14.1.length ≤ 9223372036854775806) <|
    bnd (numV x14) fun x36 =>
    bnd (numR x14) fun x37 =>
    (show Option (Bool) from
    bnd x37.2 fun x39 =>
    cond x39 (some (true : Bool)) ((d_ops_Check n (⟨x13, x36, 0, 0, 0, 0, 0, 0, []⟩ : GOp)).bind fun x40 =>
    bnd (!x40) fun x41 =>
    some (x41 : Bool))).bind <| fun y3_1 =>
    cond y3_1 (esc (esc (some (([] : List GOp), (3 : Int))))) (bnd (y1_4 ++ [(⟨x13, x36, 0, 0, 0, 0, 0, 0, []⟩ : GOp)]) fun x42 =>
    asrt (x42.length ≤ 68719476736) <|
    brk (((⟨x37.1, x37.2⟩ : GReader) : GReader), (x42 : List GOp)))))))))))))))))))).bind <| sel <| p2 fun (y4_2 : GReader) (y4_3 : List GOp) =>
    bnd (w64 (y1_2 + 1)) fun x411 =>
    d_ops_Read_L0 x6 n (x411 : Int) (y4_2 : GReader) (y4_3 : List GOp)) (brk ((y1_3 : GReader), (y1_4 : List GOp)))
def d_ops_Read (n : Nat) (a1 : List UInt8) : Option ((List GOp) × Int) :=
bnd (decide ((a1.length : Int) > 131072)) fun x2 =>
asrt (x2 = false) <|
(show Option ((Unit)) from
some ()).bind <| fun _ =>
asrt (((a1, false) : RS).1.length ≤ 9223372036854775806) <|
bnd (cntV ((a1, false) : RS) 400) fun x6 =>
bnd (cntR ((a1, false) : RS) 400) fun x7 =>
(show Option ((GReader × (List GOp)) ⊕ ((List GOp) × Int)) from
d_ops_Read_L0 x6 n (0 : Int) ((⟨x7.1, x7.2⟩ : GReader) : GReader) (([] : List GOp) : List GOp)).bind <| sel <| p2 fun (y6_2 : GReader) (y6_3 : List GOp) =>
(show Option (Bool) from
bnd (((y6_2.s, y6_2.bad) : RS).2) fun x413 =>
cond x413 (some (true : Bool)) (bnd (decide ((((y6_2.s, y6_2.bad) : RS).1.length : Int) > 0)) fun x414 =>
some (x414 : Bool))).bind <| fun y7_1 =>
cond y7_1 (some (([] : List GOp), (3 : Int))) (some ((y6_3 : List GOp), (0 : Int)))
theorem d_ops_Read_c {n : Nat} {a1 : List UInt8} {r : (List GOp) × Int} (h0 : d_ops_Read n a1 = some r) : PP Try.prog 10 [str a1] (fun y => y = .tup [lst 9 GOp.av r.1, int r.2]) := by
  unfold d_ops_Read at h0
  refine pp_of_pc (R0 := fun y H => Cv (frzH H) y (.tup [lst 9 GOp.av r.1, int r.2])) ?_ (fun y H hc => ⟨_, rfl, .tup (pvl2 ((pvLs GOp.pvc) (r.1)) (pvI (r.2))), hc⟩)
  refine pcw (c := _) Try.func10 rfl rfl ?_; intro Q hret hnorm
  refine tc tbk 9 (.mk ?_)
  refine sY (yv_len_str rfl Try.underlying9 rfl) ?_
  refine nb tbk h0 fun x2 h0 => ?_
  refine tr tbk 1 (.mk ?_)
  replace h0 := asrt_e h0
  obtain ⟨rfl, h0⟩ := h0
  refine tc tbk 5 (.mk ?_)
  obtain ⟨j3, h1, h0⟩ := bind_e h0
  refine rse (Out := fun y H' => (∃ (a : Unit) (k : Nat), a = j3 ∧ y = .pt 1 k 0 0 ∧ H' = hk [(1, ⟨87, 2, true, true, k, [[str a1, boo false]]⟩)])) rfl rfl rfl (yl_call rfl rfl (.cons rfl .nil) cal28 ?_) ?_
  refine pcw (c := _) Try.func28 rfl rfl ?_; intro Q hret hnorm
  refine tc tbk 8 (.mk ?_)
  refine sB 1 fun v4 => ?_
  refine tr tbk 2 (.mk ?_)
  obtain rfl := nxt_e h1
  refine w_ret (hret _ _ (hk [(1, ⟨87, 2, true, true, v4, [[str a1, boo false]]⟩)]) (.tmp rfl .nil) (HK.le ⟨rfl, trivial⟩) ?_)
  exact ⟨(), v4, rfl, rfl, rfl⟩
  rintro y _ ⟨_, w0_1, rfl, hc, rfl⟩
  subst hc
  refine tr tbk 10 (.mk ?_)
  obtain ⟨p5, h0⟩ := asrt_e h0
  obtain ⟨x6, e6, h0⟩ := bnd_e h0
  obtain ⟨x7, e7, h0⟩ := bnd_e h0
  refine rse rfl rfl rfl (yl_call rfl rfl (.cons rfl (.cons rfl .nil)) cal29 (PC.mono (countP_c (most := 400) (s := ((a1, false) : RS)) (id := 1) (ver := w0_1) rfl p5) (R' := fun y H' => y = int x6 ∧ H' = upd _ 1 (some (rdr 87 w0_1 x7))) (fun y H' h => ⟨h.1.trans (congrArg int e6), h.2.trans (rdr_cong e7)⟩))) ?_; rintro _ _ ⟨rfl, rfl⟩
  refine tr tbk 2 (.mk ?_)
  refine jnE h0 [2, 3, 4] [] (fun (a : GReader × (List GOp)) (k : Nat) => [(5, .sl 4 k 0 a.2.length)]) (fun a k => [(1, ⟨87, 2, true, true, w0_1, [[str a.1.s, boo a.1.bad]]⟩), (4, ⟨28, 9, true, true, k, a.2.map GOp.av⟩)]) ⟨fun j8 h1 h0 => ?_, ?_⟩
  refine tc tbk 1 (.mk ?_)
  refine c_nilobj 5 4 28 9 rfl rfl ?_; intro v9
  refine lp (fun n (a : Int × GReader × (List GOp)) => d_ops_Read_L0 x6 n a.1 a.2.1 a.2.2) ((0 : Int), ((⟨x7.1, x7.2⟩ : GReader) : GReader), (([] : List GOp) : List GOp)) v9 h1 [2, 3, 4, 15] [] (fun (a : Int × GReader × (List GOp)) (k : Nat) => [(5, .sl 4 k 0 a.2.2.length), (16, int a.1)]) (fun a k => [(1, ⟨87, 2, true, true, w0_1, [[str a.2.1.s, boo a.2.1.bad]]⟩), (4, ⟨28, 9, true, true, k, a.2.2.map GOp.av⟩)]) (fun _ => rfl) ⟨leA, ?_⟩
  rintro n ⟨y1_2, y1_3, y1_4⟩ w1_1 hm h1
  replace h1 : d_ops_Read_L0 x6 (n + 1) y1_2 y1_3 y1_4 = some _ := h1
  rw [d_ops_Read_L0] at h1
  refine tc tbk 2 (.mk ?_)
  refine nb tbk h1 fun x10 h1 => ?_
  refine tr tbk 2 (.mk ?_)
  cases x10
  replace h1 := cf h1
  refine tc tbk 2 (.mk ?_)
  exact lfE h1 w1_1 leA
  replace h1 := ct h1
  refine tc tbk 3 (.mk ?_)
  refine jnE h1 [2, 3, 4, 15, 16] [] (fun (a : GReader × (List GOp)) (k : Nat) => [(5, .sl 4 k 0 a.2.length)]) (fun a k => [(1, ⟨87, 2, true, true, w0_1, [[str a.1.s, boo a.1.bad]]⟩), (4, ⟨28, 9, true, true, k, a.2.map GOp.av⟩)]) ⟨fun j11 h2 h1 => ?_, ?_⟩
  refine tc tbk 4 (.mk ?_)
  obtain ⟨p12, h2⟩ := asrt_e h2
  obtain ⟨x13, e13, h2⟩ := bnd_e h2
  obtain ⟨x14, e14, h2⟩ := bnd_e h2
  refine rse rfl rfl rfl (yl_call rfl rfl (.cons rfl (.cons rfl .nil)) cal29 (PC.mono (countP_c (most := 16) (s := ((y1_3.s, y1_3.bad) : RS)) (id := 1) (ver := w0_1) rfl p12) (R' := fun y H' => y = int x13 ∧ H' = upd _ 1 (some (rdr 87 w0_1 x14))) (fun y H' h => ⟨h.1.trans (congrArg int e13), h.2.trans (rdr_cong e14)⟩))) ?_; rintro _ _ ⟨rfl, rfl⟩
  refine sY (yv_build (cs := [int x13, int 0, int 0, int 0, int 0, int 0, int 0, int 0, .sc (.slice none 0 0)]) (ps := [(0, _)]) rfl pl28 z28 rfl (.cons rfl .nil) (by kernel_rfl)) ?_
  refine sA 2 z28 fun v15 => ?_
  refine sS ⟨28, 9, true, true, v15, [[int x13, int 0, int 0, int 0, int 0, int 0, int 0, int 0, .sc (.slice none 0 0)]]⟩ sh28 ?_
  refine tr tbk 2 (.mk ?_)
  obtain ⟨x16, e16, h2⟩ := bnd_e h2
  cases x16
  replace h2 := cf h2
  obtain ⟨x17, e17, h2⟩ := bnd_e h2
  cases x17
  replace h2 := cf h2
  obtain ⟨x18, e18, h2⟩ := bnd_e h2
  cases x18
  replace h2 := cf h2
  obtain ⟨x19, e19, h2⟩ := bnd_e h2
  cases x19
  replace h2 := cf h2
  obtain ⟨x20, e20, h2⟩ := bnd_e h2
  cases x20
  replace h2 := cf h2
  obtain ⟨x21, e21, h2⟩ := bnd_e h2
  cases x21
  replace h2 := cf h2
  obtain ⟨x22, e22, h2⟩ := bnd_e h2
  cases x22
  replace h2 := cf h2
  obtain ⟨x23, e23, h2⟩ := bnd_e h2
  cases x23
  replace h2 := cf h2
  obtain ⟨x24, e24, h2⟩ := bnd_e h2
  cases x24
  replace h2 := cf h2
  obtain ⟨x25, e25, h2⟩ := bnd_e h2
  cases x25
  replace h2 := cf h2
  obtain ⟨x26, e26, h2⟩ := bnd_e h2
  cases x26
  replace h2 := cf h2
  obtain ⟨x27, e27, h2⟩ := bnd_e h2
  cases x27
  replace h2 := cf h2
  obtain ⟨x28, e28, h2⟩ := bnd_e h2
  cases x28
  replace h2 := cf h2
  obtain ⟨x29, e29, h2⟩ := bnd_e h2
  cases x29
  replace h2 := cf h2
  obtain ⟨x30, e30, h2⟩ := bnd_e h2
  cases x30
  replace h2 := cf h2
  obtain ⟨x31, e31, h2⟩ := bnd_e h2
  cases x31
  replace h2 := cf h2
  obtain ⟨p32, h2⟩ := asrt_e h2
  refine w_rangeD [0, 0, 2, 7, 15] (fun i => bif Nat.beq i 1 then ([2]) else bif Nat.beq i 2 then ([2]) else []) (fun i => [2]) 4 [0, 1, 2, 3] mixed (by kernel_rfl) rfl rfl rfl rfl rfl rfl rfl rfl rfl rfl rfl rfl rfl Try.underlying9 ?_
  refine eP (fun H hH => yv_callP rfl rfl .nil cal20 (CvL.refl _) forms20_c) ?_
  refine eF fo28_0 ?_
  refine eL sh3 ?_
  refine de_as 23 (int 16) rfl (congrArg int p32) ?_
  refine de_pure rfl rfl rfl rfl (fun H hH => yv_indexA rfl Try.underlying46 sh45 rfl rfl (by decide) rfl) ?_
  refine ⟨_, rfl, rfl, fun b33 => ?_⟩
  refine tc tbk 13 (.mk ?_)
  refine sY (yv_to (y := boo false) (yv_eql rfl rfl rfl) (congrArg boo (by decide))) ?_
  refine tr tbk 4 (.mk ?_)
  obtain ⟨j34, h3, h2⟩ := bind_e h2
  refine rse (Out := fun y H' => (∃ (a : Unit) (k : Unit), a = j34 ∧ y = .pt 2 v15 0 1 ∧ H' = hk [(1, ⟨87, 2, true, true, w0_1, [[str x14.1, boo x14.2]]⟩), (2, ⟨28, 9, true, true, v15, [[int x13, int 0, int 0, int 0, int 0, int 0, int 0, int 0, .sc (.slice none 0 0)]]⟩), (4, ⟨28, 9, true, true, w1_1, y1_4.map GOp.av⟩)])) rfl rfl rfl (yl_call rfl rfl (.cons rfl (.cons rfl .nil)) cal23 ?_) ?_
  refine pcw (c := _) Try.func23 rfl rfl ?_; intro Q hret hnorm
  refine tc tbk 12 (.mk ?_)
  refine sY (yv_to (y := boo true) (yv_eql rfl rfl rfl) (congrArg boo (by decide))) ?_
  refine tr tbk 10 (.mk ?_)
  obtain rfl := nxt_e h3
  refine w_ret (hret _ _ (hk [(1, ⟨87, 2, true, true, w0_1, [[str x14.1, boo x14.2]]⟩), (2, ⟨28, 9, true, true, v15, [[int x13, int 0, int 0, int 0, int 0, int 0, int 0, int 0, .sc (.slice none 0 0)]]⟩), (4, ⟨28, 9, true, true, w1_1, y1_4.map GOp.av⟩)]) (.tmp rfl .nil) (HK.le ⟨rfl, rfl, rfl, trivial⟩) ?_)
  exact ⟨(), (), rfl, rfl, rfl⟩
  rintro y _ ⟨_, _, rfl, hc, rfl⟩
  subst hc
  refine tr tbk 1 (.mk ?_)
  obtain ⟨p35, h2⟩ := asrt_e h2
  obtain ⟨x36, e36, h2⟩ := bnd_e h2
  obtain ⟨x37, e37, h2⟩ := bnd_e h2
  refine rse rfl rfl rfl (yl_call rfl rfl (.cons rfl .nil) cal31 (PC.mono (numP_c (s := x14) (id := 1) (ver := w0_1) rfl p35) (R' := fun y H' => y = int x36 ∧ H' = upd _ 1 (some (rdr 87 w0_1 x37))) (fun y H' h => ⟨h.1.trans (congrArg int e36), h.2.trans (rdr_cong e37)⟩))) ?_; rintro _ _ ⟨rfl, rfl⟩
  refine tr tbk 1 (.mk ?_)
  refine sS ⟨28, 9, true, true, v15, [[int x13, int x36, int 0, int 0, int 0, int 0, int 0, int 0, .sc (.slice none 0 0)]]⟩ sh3 ?_
  refine tr tbk 8 (.mk ?_)
  refine jn h2 [2, 3, 4, 5, 6, 15, 16] [1, 2, 4] (fun (a : Bool) (k : Unit) => [(45, boo a)]) (fun a k => []) ⟨fun j38 h3 => ?_, ?_⟩
  refine tc tbk 2 (.mk ?_)
  refine sY (yv_callR rfl rfl (.cons rfl .nil) cal32 (badP_c (s := x37) (id := 1) (ver := w0_1) rfl) (.sc _)) ?_
  refine tr tbk 1 (.mk ?_)
  obtain ⟨x39, e39, h3⟩ := bnd_e h3
  refine rsas 40 (boo x39) rfl (congrArg boo e39) ?_
  refine rsas 41 (boo x39) rfl (congrArg boo e39) ?_
  cases x39
  replace h3 := cf h3
  refine tr tbk 1 (.mk ?_)
  obtain ⟨x40, e40, h3⟩ := bind_e h3
  refine sY (yv_callP rfl rfl (.cons rfl .nil) cal8 (.cons (CvL.agg (.cons (.refl _) (.cons (.refl _) (.cons (.refl _) (.cons (.refl _) (.cons (.refl _) (.cons (.refl _) (.cons (.refl _) (.cons (.refl _) (.cons (.nil _) .nil)))))))))) .nil) (d_ops_Check_c e40)) ?_
  refine nb tbk h3 fun x41 h3 => ?_
  refine tr tbk 2 (.mk ?_)
  exact lf h3 () leA
  replace h3 := ct h3
  refine tr tbk 5 (.mk ?_)
  exact lf h3 () leA
  rintro y3_1 _ h2
  cases y3_1
  replace h2 := cf h2
  refine tc tbk 5 (.mk ?_)
  refine sY (yv_buildSlice (ps := [(0, _)]) (rows := [[int x13, int x36, int 0, int 0, int 0, int 0, int 0, int 0, .sc (.slice none 0 0)]]) rfl Try.underlying22 bz28 (.cons rfl .nil) (by kernel_rfl) rfl rfl rfl) ?_
  obtain ⟨x42, e42, h2⟩ := bnd_e h2
  obtain ⟨p43, h2⟩ := asrt_e h2
  refine rse rfl rfl rfl (yl_appT (g := GOp.av) (l := y1_4) (m := [(⟨x13, x36, 0, 0, 0, 0, 0, 0, []⟩ : GOp)]) .any rfl Try.underlying22 bz28 by28 rfl rfl rfl rfl rfl rfl rfl rfl rfl rfl (Eq.symm rfl) (CvLL.list (.cons (.cons (.refl _) (.cons (.refl _) (.cons (.refl _) (.cons (.refl _) (.cons (.refl _) (.cons (.refl _) (.cons (.refl _) (.cons (.refl _) (.cons (.nil _) .nil))))))))) .nil)) (fun _ => rfl) e42 p43) ?_; rintro _ _ ⟨v44, -, rfl, rfl⟩
  refine tr tbk 3 (.mk ?_)
  exact lfE h2 v44 leA
  replace h2 := ct h2
  refine tc tbk 6 (.mk ?_)
  obtain ⟨c45, hX, hj⟩ := esc_e h2; subst hj; replace h1 := hX.trans (sel_r h1)
  obtain ⟨c46, hX, hj⟩ := esc_e h1; subst hj; replace h0 := hX.trans (sel_r h0)
  obtain rfl := nxt_e h0
  refine wR hret (rT (rT .nil)) ?_
  exact CvL.tup (.cons (.nil _) (.cons (.refl _) .nil))
  replace h2 := ct h2
  refine w_rangeD [0, 0, 2, 7, 15] (fun i => bif Nat.beq i 1 then ([2]) else bif Nat.beq i 2 then ([2]) else []) (fun i => [2]) 4 [0, 1, 2, 3] mixed (by kernel_rfl) rfl rfl rfl rfl rfl rfl rfl rfl rfl rfl rfl rfl rfl Try.underlying9 ?_
  refine eP (fun H hH => yv_callP rfl rfl .nil cal20 (CvL.refl _) forms20_c) ?_
  refine eF fo28_0 ?_
  refine eL sh3 ?_
  refine de_as 23 (int 15) rfl (congrArg int (of_decide_eq_true e31)) ?_
  refine de_pure rfl rfl rfl rfl (fun H hH => yv_indexA rfl Try.underlying46 sh45 rfl rfl (by decide) rfl) ?_
  refine ⟨_, rfl, rfl, fun b47 => ?_⟩
  refine tc tbk 13 (.mk ?_)
  refine sY (yv_to (y := boo false) (yv_eql rfl rfl rfl) (congrArg boo (by decide))) ?_
  refine tr tbk 4 (.mk ?_)
  obtain ⟨j48, h3, h2⟩ := bind_e h2
  refine rse (Out := fun y H' => (∃ (a : Unit) (k : Unit), a = j48 ∧ y = .pt 2 v15 0 1 ∧ H' = hk [(1, ⟨87, 2, true, true, w0_1, [[str x14.1, boo x14.2]]⟩), (2, ⟨28, 9, true, true, v15, [[int x13, int 0, int 0, int 0, int 0, int 0, int 0, int 0, .sc (.slice none 0 0)]]⟩), (4, ⟨28, 9, true, true, w1_1, y1_4.map GOp.av⟩)])) rfl rfl rfl (yl_call rfl rfl (.cons rfl (.cons rfl .nil)) cal23 ?_) ?_
  refine pcw (c := _) Try.func23 rfl rfl ?_; intro Q hret hnorm
  refine tc tbk 12 (.mk ?_)
  refine sY (yv_to (y := boo true) (yv_eql rfl rfl rfl) (congrArg boo (by decide))) ?_
  refine tr tbk 10 (.mk ?_)
  obtain rfl := nxt_e h3
  refine w_ret (hret _ _ (hk [(1, ⟨87, 2, true, true, w0_1, [[str x14.1, boo x14.2]]⟩), (2, ⟨28, 9, true, true, v15, [[int x13, int 0, int 0, int 0, int 0, int 0, int 0, int 0, .sc (.slice none 0 0)]]⟩), (4, ⟨28, 9, true, true, w1_1, y1_4.map GOp.av⟩)]) (.tmp rfl .nil) (HK.le ⟨rfl, rfl, rfl, trivial⟩) ?_)
  exact ⟨(), (), rfl, rfl, rfl⟩
  rintro y _ ⟨_, _, rfl, hc, rfl⟩
  subst hc
  refine tr tbk 1 (.mk ?_)
  obtain ⟨p49, h2⟩ := asrt_e h2
  obtain ⟨x50, e50, h2⟩ := bnd_e h2
  obtain ⟨x51, e51, h2⟩ := bnd_e h2
  refine rse rfl rfl rfl (yl_call rfl rfl (.cons rfl .nil) cal31 (PC.mono (numP_c (s := x14) (id := 1) (ver := w0_1) rfl p49) (R' := fun y H' => y = int x50 ∧ H' = upd _ 1 (some (rdr 87 w0_1 x51))) (fun y H' h => ⟨h.1.trans (congrArg int e50), h.2.trans (rdr_cong e51)⟩))) ?_; rintro _ _ ⟨rfl, rfl⟩
  refine tr tbk 1 (.mk ?_)
  refine sS ⟨28, 9, true, true, v15, [[int x13, int x50, int 0, int 0, int 0, int 0, int 0, int 0, .sc (.slice none 0 0)]]⟩ sh3 ?_
  refine tr tbk 8 (.mk ?_)
  refine jn h2 [2, 3, 4, 5, 6, 15, 16] [1, 2, 4] (fun (a : Bool) (k : Unit) => [(45, boo a)]) (fun a k => []) ⟨fun j52 h3 => ?_, ?_⟩
  refine tc tbk 2 (.mk ?_)
  refine sY (yv_callR rfl rfl (.cons rfl .nil) cal32 (badP_c (s := x51) (id := 1) (ver := w0_1) rfl) (.sc _)) ?_
  refine tr tbk 1 (.mk ?_)
  obtain ⟨x53, e53, h3⟩ := bnd_e h3
  refine rsas 40 (boo x53) rfl (congrArg boo e53) ?_
  refine rsas 41 (boo x53) rfl (congrArg boo e53) ?_
  cases x53
  replace h3 := cf h3
  refine tr tbk 1 (.mk ?_)
  obtain ⟨x54, e54, h3⟩ := bind_e h3
  refine sY (yv_callP rfl rfl (.cons rfl .nil) cal8 (.cons (CvL.agg (.cons (.refl _) (.cons (.refl _) (.cons (.refl _) (.cons (.refl _) (.cons (.refl _) (.cons (.refl _) (.cons (.refl _) (.cons (.refl _) (.cons (.nil _) .nil)))))))))) .nil) (d_ops_Check_c e54)) ?_
  refine nb tbk h3 fun x55 h3 => ?_
  refine tr tbk 2 (.mk ?_)
  exact lf h3 () leA
  replace h3 := ct h3
  refine tr tbk 5 (.mk ?_)
  exact lf h3 () leA
  rintro y3_1 _ h2
  cases y3_1
  replace h2 := cf h2
  refine tc tbk 5 (.mk ?_)
  refine sY (yv_buildSlice (ps := [(0, _)]) (rows := [[int x13, int x50, int 0, int 0, int 0, int 0, int 0, int 0, .sc (.slice none 0 0)]]) rfl Try.underlying22 bz28 (.cons rfl .nil) (by kernel_rfl) rfl rfl rfl) ?_
  obtain ⟨x56, e56, h2⟩ := bnd_e h2
  obtain ⟨p57, h2⟩ := asrt_e h2
  refine rse rfl rfl rfl (yl_appT (g := GOp.av) (l := y1_4) (m := [(⟨x13, x50, 0, 0, 0, 0, 0, 0, []⟩ : GOp)]) .any rfl Try.underlying22 bz28 by28 rfl rfl rfl rfl rfl rfl rfl rfl rfl rfl (Eq.symm rfl) (CvLL.list (.cons (.cons (.refl _) (.cons (.refl _) (.cons (.refl _) (.cons (.refl _) (.cons (.refl _) (.cons (.refl _) (.cons (.refl _) (.cons (.refl _) (.cons (.nil _) .nil))))))))) .nil)) (fun _ => rfl) e56 p57) ?_; rintro _ _ ⟨v58, -, rfl, rfl⟩
  refine tr tbk 3 (.mk ?_)
  exact lfE h2 v58 leA
  replace h2 := ct h2
  refine tc tbk 6 (.mk ?_)
  obtain ⟨c59, hX, hj⟩ := esc_e h2; subst hj; replace h1 := hX.trans (sel_r h1)
  obtain ⟨c60, hX, hj⟩ := esc_e h1; subst hj; replace h0 := hX.trans (sel_r h0)
  obtain rfl := nxt_e h0
  refine wR hret (rT (rT .nil)) ?_
  exact CvL.tup (.cons (.nil _) (.cons (.refl _) .nil))
  replace h2 := ct h2
  refine w_rangeD [0, 0, 2, 7, 15] (fun i => bif Nat.beq i 1 then ([2]) else bif Nat.beq i 2 then ([2]) else []) (fun i => [2]) 4 [0, 1, 2, 3] mixed (by kernel_rfl) rfl rfl rfl rfl rfl rfl rfl rfl rfl rfl rfl rfl rfl Try.underlying9 ?_
  refine eP (fun H hH => yv_callP rfl rfl .nil cal20 (CvL.refl _) forms20_c) ?_
  refine eF fo28_0 ?_
  refine eL sh3 ?_
  refine de_as 23 (int 14) rfl (congrArg int (of_decide_eq_true e30)) ?_
  refine de_pure rfl rfl rfl rfl (fun H hH => yv_indexA rfl Try.underlying46 sh45 rfl rfl (by decide) rfl) ?_
  refine ⟨_, rfl, rfl, fun b61 => ?_⟩
  refine tc tbk 13 (.mk ?_)
  refine sY (yv_to (y := boo false) (yv_eql rfl rfl rfl) (congrArg boo (by decide))) ?_
  refine tr tbk 4 (.mk ?_)
  obtain ⟨j62, h3, h2⟩ := bind_e h2
  refine rse (Out := fun y H' => (∃ (a : Unit) (k : Unit), a = j62 ∧ y = .pt 2 v15 0 1 ∧ H' = hk [(1, ⟨87, 2, true, true, w0_1, [[str x14.1, boo x14.2]]⟩), (2, ⟨28, 9, true, true, v15, [[int x13, int 0, int 0, int 0, int 0, int 0, int 0, int 0, .sc (.slice none 0 0)]]⟩), (4, ⟨28, 9, true, true, w1_1, y1_4.map GOp.av⟩)])) rfl rfl rfl (yl_call rfl rfl (.cons rfl (.cons rfl .nil)) cal23 ?_) ?_
  refine pcw (c := _) Try.func23 rfl rfl ?_; intro Q hret hnorm
  refine tc tbk 12 (.mk ?_)
  refine sY (yv_to (y := boo true) (yv_eql rfl rfl rfl) (congrArg boo (by decide))) ?_
  refine tr tbk 10 (.mk ?_)
  obtain rfl := nxt_e h3
  refine w_ret (hret _ _ (hk [(1, ⟨87, 2, true, true, w0_1, [[str x14.1, boo x14.2]]⟩), (2, ⟨28, 9, true, true, v15, [[int x13, int 0, int 0, int 0, int 0, int 0, int 0, int 0, .sc (.slice none 0 0)]]⟩), (4, ⟨28, 9, true, true, w1_1, y1_4.map GOp.av⟩)]) (.tmp rfl .nil) (HK.le ⟨rfl, rfl, rfl, trivial⟩) ?_)
  exact ⟨(), (), rfl, rfl, rfl⟩
  rintro y _ ⟨_, _, rfl, hc, rfl⟩
  subst hc
  refine tr tbk 1 (.mk ?_)
  obtain ⟨p63, h2⟩ := asrt_e h2
  obtain ⟨x64, e64, h2⟩ := bnd_e h2
  obtain ⟨x65, e65, h2⟩ := bnd_e h2
  refine rse rfl rfl rfl (yl_call rfl rfl (.cons rfl .nil) cal31 (PC.mono (numP_c (s := x14) (id := 1) (ver := w0_1) rfl p63) (R' := fun y H' => y = int x64 ∧ H' = upd _ 1 (some (rdr 87 w0_1 x65))) (fun y H' h => ⟨h.1.trans (congrArg int e64), h.2.trans (rdr_cong e65)⟩))) ?_; rintro _ _ ⟨rfl, rfl⟩
  refine tr tbk 1 (.mk ?_)
  refine sS ⟨28, 9, true, true, v15, [[int x13, int x64, int 0, int 0, int 0, int 0, int 0, int 0, .sc (.slice none 0 0)]]⟩ sh3 ?_
  refine tr tbk 8 (.mk ?_)
  refine jn h2 [2, 3, 4, 5, 6, 15, 16] [1, 2, 4] (fun (a : Bool) (k : Unit) => [(45, boo a)]) (fun a k => []) ⟨fun j66 h3 => ?_, ?_⟩
  refine tc tbk 2 (.mk ?_)
  refine sY (yv_callR rfl rfl (.cons rfl .nil) cal32 (badP_c (s := x65) (id := 1) (ver := w0_1) rfl) (.sc _)) ?_
  refine tr tbk 1 (.mk ?_)
  obtain ⟨x67, e67, h3⟩ := bnd_e h3
  refine rsas 40 (boo x67) rfl (congrArg boo e67) ?_
  refine rsas 41 (boo x67) rfl (congrArg boo e67) ?_
  cases x67
  replace h3 := cf h3
  refine tr tbk 1 (.mk ?_)
  obtain ⟨x68, e68, h3⟩ := bind_e h3
  refine sY (yv_callP rfl rfl (.cons rfl .nil) cal8 (.cons (CvL.agg (.cons (.refl _) (.cons (.refl _) (.cons (.refl _) (.cons (.refl _) (.cons (.refl _) (.cons (.refl _) (.cons (.refl _) (.cons (.refl _) (.cons (.nil _) .nil)))))))))) .nil) (d_ops_Check_c e68)) ?_
  refine nb tbk h3 fun x69 h3 => ?_
  refine tr tbk 2 (.mk ?_)
  exact lf h3 () leA
  replace h3 := ct h3
  refine tr tbk 5 (.mk ?_)
  exact lf h3 () leA
  rintro y3_1 _ h2
  cases y3_1
  replace h2 := cf h2
  refine tc tbk 5 (.mk ?_)
  refine sY (yv_buildSlice (ps := [(0, _)]) (rows := [[int x13, int x64, int 0, int 0, int 0, int 0, int 0, int 0, .sc (.slice none 0 0)]]) rfl Try.underlying22 bz28 (.cons rfl .nil) (by kernel_rfl) rfl rfl rfl) ?_
  obtain ⟨x70, e70, h2⟩ := bnd_e h2
  obtain ⟨p71, h2⟩ := asrt_e h2
  refine rse rfl rfl rfl (yl_appT (g := GOp.av) (l := y1_4) (m := [(⟨x13, x64, 0, 0, 0, 0, 0, 0, []⟩ : GOp)]) .any rfl Try.underlying22 bz28 by28 rfl rfl rfl rfl rfl rfl rfl rfl rfl rfl (Eq.symm rfl) (CvLL.list (.cons (.cons (.refl _) (.cons (.refl _) (.cons (.refl _) (.cons (.refl _) (.cons (.refl _) (.cons (.refl _) (.cons (.refl _) (.cons (.refl _) (.cons (.nil _) .nil))))))))) .nil)) (fun _ => rfl) e70 p71) ?_; rintro _ _ ⟨v72, -, rfl, rfl⟩
  refine tr tbk 3 (.mk ?_)
  exact lfE h2 v72 leA
  replace h2 := ct h2
  refine tc tbk 6 (.mk ?_)
  obtain ⟨c73, hX, hj⟩ := esc_e h2; subst hj; replace h1 := hX.trans (sel_r h1)
  obtain ⟨c74, hX, hj⟩ := esc_e h1; subst hj; replace h0 := hX.trans (sel_r h0)
  obtain rfl := nxt_e h0
  refine wR hret (rT (rT .nil)) ?_
  exact CvL.tup (.cons (.nil _) (.cons (.refl _) .nil))
  replace h2 := ct h2
  refine w_rangeD [0, 0, 2, 7, 15] (fun i => bif Nat.beq i 1 then ([2]) else bif Nat.beq i 2 then ([2]) else []) (fun i => [2]) 4 [0, 1, 2, 3] mixed (by kernel_rfl) rfl rfl rfl rfl rfl rfl rfl rfl rfl rfl rfl rfl rfl Try.underlying9 ?_
  refine eP (fun H hH => yv_callP rfl rfl .nil cal20 (CvL.refl _) forms20_c) ?_
  refine eF fo28_0 ?_
  refine eL sh3 ?_
  refine de_as 23 (int 13) rfl (congrArg int (of_decide_eq_true e29)) ?_
  refine de_pure rfl rfl rfl rfl (fun H hH => yv_indexA rfl Try.underlying46 sh45 rfl rfl (by decide) rfl) ?_
  refine ⟨_, rfl, rfl, fun b75 => ?_⟩
  refine tc tbk 13 (.mk ?_)
  refine sY (yv_to (y := boo false) (yv_eql rfl rfl rfl) (congrArg boo (by decide))) ?_
  refine tr tbk 4 (.mk ?_)
  obtain ⟨j76, h3, h2⟩ := bind_e h2
  refine rse (Out := fun y H' => (∃ (a : Unit) (k : Unit), a = j76 ∧ y = .pt 2 v15 0 3 ∧ H' = hk [(1, ⟨87, 2, true, true, w0_1, [[str x14.1, boo x14.2]]⟩), (2, ⟨28, 9, true, true, v15, [[int x13, int 0, int 0, int 0, int 0, int 0, int 0, int 0, .sc (.slice none 0 0)]]⟩), (4, ⟨28, 9, true, true, w1_1, y1_4.map GOp.av⟩)])) rfl rfl rfl (yl_call rfl rfl (.cons rfl (.cons rfl .nil)) cal23 ?_) ?_
  refine pcw (c := _) Try.func23 rfl rfl ?_; intro Q hret hnorm
  refine tc tbk 12 (.mk ?_)
  refine sY (yv_to (y := boo false) (yv_eql rfl rfl rfl) (congrArg boo (by decide))) ?_
  refine tr tbk 5 (.mk ?_)
  refine sY (yv_to (y := boo false) (yv_eql rfl rfl rfl) (congrArg boo (by decide))) ?_
  refine tr tbk 5 (.mk ?_)
  refine sY (yv_to (y := boo true) (yv_eql rfl rfl rfl) (congrArg boo (by decide))) ?_
  refine tr tbk 10 (.mk ?_)
  obtain rfl := nxt_e h3
  refine w_ret (hret _ _ (hk [(1, ⟨87, 2, true, true, w0_1, [[str x14.1, boo x14.2]]⟩), (2, ⟨28, 9, true, true, v15, [[int x13, int 0, int 0, int 0, int 0, int 0, int 0, int 0, .sc (.slice none 0 0)]]⟩), (4, ⟨28, 9, true, true, w1_1, y1_4.map GOp.av⟩)]) (.tmp rfl .nil) (HK.le ⟨rfl, rfl, rfl, trivial⟩) ?_)
  exact ⟨(), (), rfl, rfl, rfl⟩
  rintro y _ ⟨_, _, rfl, hc, rfl⟩
  subst hc
  refine tr tbk 1 (.mk ?_)
  obtain ⟨p77, h2⟩ := asrt_e h2
  obtain ⟨x78, e78, h2⟩ := bnd_e h2
  obtain ⟨x79, e79, h2⟩ := bnd_e h2
  refine rse rfl rfl rfl (yl_call rfl rfl (.cons rfl .nil) cal31 (PC.mono (numP_c (s := x14) (id := 1) (ver := w0_1) rfl p77) (R' := fun y H' => y = int x78 ∧ H' = upd _ 1 (some (rdr 87 w0_1 x79))) (fun y H' h => ⟨h.1.trans (congrArg int e78), h.2.trans (rdr_cong e79)⟩))) ?_; rintro _ _ ⟨rfl, rfl⟩
  refine tr tbk 1 (.mk ?_)
  refine sS ⟨28, 9, true, true, v15, [[int x13, int 0, int 0, int x78, int 0, int 0, int 0, int 0, .sc (.slice none 0 0)]]⟩ sh3 ?_
  refine tr tbk 15 (.mk ?_)
  refine sY (yv_to (y := boo false) (yv_eql rfl rfl rfl) (congrArg boo (by decide))) ?_
  refine tr tbk 4 (.mk ?_)
  obtain ⟨j80, h3, h2⟩ := bind_e h2
  refine rse (Out := fun y H' => (∃ (a : Unit) (k : Unit), a = j80 ∧ y = .pt 2 v15 0 5 ∧ H' = hk [(1, ⟨87, 2, true, true, w0_1, [[str x79.1, boo x79.2]]⟩), (2, ⟨28, 9, true, true, v15, [[int x13, int 0, int 0, int x78, int 0, int 0, int 0, int 0, .sc (.slice none 0 0)]]⟩), (4, ⟨28, 9, true, true, w1_1, y1_4.map GOp.av⟩)])) rfl rfl rfl (yl_call rfl rfl (.cons rfl (.cons rfl .nil)) cal23 ?_) ?_
  refine pcw (c := _) Try.func23 rfl rfl ?_; intro Q hret hnorm
  refine tc tbk 12 (.mk ?_)
  refine sY (yv_to (y := boo false) (yv_eql rfl rfl rfl) (congrArg boo (by decide))) ?_
  refine tr tbk 5 (.mk ?_)
  refine sY (yv_to (y := boo false) (yv_eql rfl rfl rfl) (congrArg boo (by decide))) ?_
  refine tr tbk 5 (.mk ?_)
  refine sY (yv_to (y := boo false) (yv_eql rfl rfl rfl) (congrArg boo (by decide))) ?_
  refine tr tbk 5 (.mk ?_)
  refine sY (yv_to (y := boo false) (yv_eql rfl rfl rfl) (congrArg boo (by decide))) ?_
  refine tr tbk 5 (.mk ?_)
  refine sY (yv_to (y := boo true) (yv_eql rfl rfl rfl) (congrArg boo (by decide))) ?_
  refine tr tbk 10 (.mk ?_)
  obtain rfl := nxt_e h3
  refine w_ret (hret _ _ (hk [(1, ⟨87, 2, true, true, w0_1, [[str x79.1, boo x79.2]]⟩), (2, ⟨28, 9, true, true, v15, [[int x13, int 0, int 0, int x78, int 0, int 0, int 0, int 0, .sc (.slice none 0 0)]]⟩), (4, ⟨28, 9, true, true, w1_1, y1_4.map GOp.av⟩)]) (.tmp rfl .nil) (HK.le ⟨rfl, rfl, rfl, trivial⟩) ?_)
  exact ⟨(), (), rfl, rfl, rfl⟩
  rintro y _ ⟨_, _, rfl, hc, rfl⟩
  subst hc
  refine tr tbk 1 (.mk ?_)
  obtain ⟨p81, h2⟩ := asrt_e h2
  obtain ⟨x82, e82, h2⟩ := bnd_e h2
  obtain ⟨x83, e83, h2⟩ := bnd_e h2
  refine rse rfl rfl rfl (yl_call rfl rfl (.cons rfl .nil) cal31 (PC.mono (numP_c (s := x79) (id := 1) (ver := w0_1) rfl p81) (R' := fun y H' => y = int x82 ∧ H' = upd _ 1 (some (rdr 87 w0_1 x83))) (fun y H' h => ⟨h.1.trans (congrArg int e82), h.2.trans (rdr_cong e83)⟩))) ?_; rintro _ _ ⟨rfl, rfl⟩
  refine tr tbk 1 (.mk ?_)
  refine sS ⟨28, 9, true, true, v15, [[int x13, int 0, int 0, int x78, int 0, int x82, int 0, int 0, .sc (.slice none 0 0)]]⟩ sh3 ?_
  refine tr tbk 15 (.mk ?_)
  refine sY (yv_to (y := boo false) (yv_eql rfl rfl rfl) (congrArg boo (by decide))) ?_
  refine tr tbk 4 (.mk ?_)
  obtain ⟨j84, h3, h2⟩ := bind_e h2
  refine rse (Out := fun y H' => (∃ (a : Unit) (k : Unit), a = j84 ∧ y = .pt 2 v15 0 7 ∧ H' = hk [(1, ⟨87, 2, true, true, w0_1, [[str x83.1, boo x83.2]]⟩), (2, ⟨28, 9, true, true, v15, [[int x13, int 0, int 0, int x78, int 0, int x82, int 0, int 0, .sc (.slice none 0 0)]]⟩), (4, ⟨28, 9, true, true, w1_1, y1_4.map GOp.av⟩)])) rfl rfl rfl (yl_call rfl rfl (.cons rfl (.cons rfl .nil)) cal23 ?_) ?_
  refine pcw (c := _) Try.func23 rfl rfl ?_; intro Q hret hnorm
  refine tc tbk 12 (.mk ?_)
  refine sY (yv_to (y := boo false) (yv_eql rfl rfl rfl) (congrArg boo (by decide))) ?_
  refine tr tbk 5 (.mk ?_)
  refine sY (yv_to (y := boo false) (yv_eql rfl rfl rfl) (congrArg boo (by decide))) ?_
  refine tr tbk 5 (.mk ?_)
  refine sY (yv_to (y := boo false) (yv_eql rfl rfl rfl) (congrArg boo (by decide))) ?_
  refine tr tbk 5 (.mk ?_)
  refine sY (yv_to (y := boo false) (yv_eql rfl rfl rfl) (congrArg boo (by decide))) ?_
  refine tr tbk 5 (.mk ?_)
  refine sY (yv_to (y := boo false) (yv_eql rfl rfl rfl) (congrArg boo (by decide))) ?_
  refine tr tbk 5 (.mk ?_)
  refine sY (yv_to (y := boo false) (yv_eql rfl rfl rfl) (congrArg boo (by decide))) ?_
  refine tr tbk 12 (.mk ?_)
  obtain rfl := nxt_e h3
  refine w_ret (hret _ _ (hk [(1, ⟨87, 2, true, true, w0_1, [[str x83.1, boo x83.2]]⟩), (2, ⟨28, 9, true, true, v15, [[int x13, int 0, int 0, int x78, int 0, int x82, int 0, int 0, .sc (.slice none 0 0)]]⟩), (4, ⟨28, 9, true, true, w1_1, y1_4.map GOp.av⟩)]) (.tmp rfl .nil) (HK.le ⟨rfl, rfl, rfl, trivial⟩) ?_)
  exact ⟨(), (), rfl, rfl, rfl⟩
  rintro y _ ⟨_, _, rfl, hc, rfl⟩
  subst hc
  refine tr tbk 1 (.mk ?_)
  obtain ⟨p85, h2⟩ := asrt_e h2
  obtain ⟨x86, e86, h2⟩ := bnd_e h2
  obtain ⟨x87, e87, h2⟩ := bnd_e h2
  refine rse rfl rfl rfl (yl_call rfl rfl (.cons rfl .nil) cal31 (PC.mono (numP_c (s := x83) (id := 1) (ver := w0_1) rfl p85) (R' := fun y H' => y = int x86 ∧ H' = upd _ 1 (some (rdr 87 w0_1 x87))) (fun y H' h => ⟨h.1.trans (congrArg int e86), h.2.trans (rdr_cong e87)⟩))) ?_; rintro _ _ ⟨rfl, rfl⟩
  refine tr tbk 1 (.mk ?_)
  refine sS ⟨28, 9, true, true, v15, [[int x13, int 0, int 0, int x78, int 0, int x82, int 0, int x86, .sc (.slice none 0 0)]]⟩ sh3 ?_
  refine tr tbk 8 (.mk ?_)
  refine jn h2 [2, 3, 4, 5, 6, 15, 16] [1, 2, 4] (fun (a : Bool) (k : Unit) => [(45, boo a)]) (fun a k => []) ⟨fun j88 h3 => ?_, ?_⟩
  refine tc tbk 2 (.mk ?_)
  refine sY (yv_callR rfl rfl (.cons rfl .nil) cal32 (badP_c (s := x87) (id := 1) (ver := w0_1) rfl) (.sc _)) ?_
  refine tr tbk 1 (.mk ?_)
  obtain ⟨x89, e89, h3⟩ := bnd_e h3
  refine rsas 40 (boo x89) rfl (congrArg boo e89) ?_
  refine rsas 41 (boo x89) rfl (congrArg boo e89) ?_
  cases x89
  replace h3 := cf h3
  refine tr tbk 1 (.mk ?_)
  obtain ⟨x90, e90, h3⟩ := bind_e h3
  refine sY (yv_callP rfl rfl (.cons rfl .nil) cal8 (.cons (CvL.agg (.cons (.refl _) (.cons (.refl _) (.cons (.refl _) (.cons (.refl _) (.cons (.refl _) (.cons (.refl _) (.cons (.refl _) (.cons (.refl _) (.cons (.nil _) .nil)))))))))) .nil) (d_ops_Check_c e90)) ?_
  refine nb tbk h3 fun x91 h3 => ?_
  refine tr tbk 2 (.mk ?_)
  exact lf h3 () leA
  replace h3 := ct h3
  refine tr tbk 5 (.mk ?_)
  exact lf h3 () leA
  rintro y3_1 _ h2
  cases y3_1
  replace h2 := cf h2
  refine tc tbk 5 (.mk ?_)
  refine sY (yv_buildSlice (ps := [(0, _)]) (rows := [[int x13, int 0, int 0, int x78, int 0, int x82, int 0, int x86, .sc (.slice none 0 0)]]) rfl Try.underlying22 bz28 (.cons rfl .nil) (by kernel_rfl) rfl rfl rfl) ?_
  obtain ⟨x92, e92, h2⟩ := bnd_e h2
  obtain ⟨p93, h2⟩ := asrt_e h2
  refine rse rfl rfl rfl (yl_appT (g := GOp.av) (l := y1_4) (m := [(⟨x13, 0, 0, x78, 0, x82, 0, x86, []⟩ : GOp)]) .any rfl Try.underlying22 bz28 by28 rfl rfl rfl rfl rfl rfl rfl rfl rfl rfl (Eq.symm rfl) (CvLL.list (.cons (.cons (.refl _) (.cons (.refl _) (.cons (.refl _) (.cons (.refl _) (.cons (.refl _) (.cons (.refl _) (.cons (.refl _) (.cons (.refl _) (.cons (.nil _) .nil))))))))) .nil)) (fun _ => rfl) e92 p93) ?_; rintro _ _ ⟨v94, -, rfl, rfl⟩
  refine tr tbk 3 (.mk ?_)
  exact lfE h2 v94 leA
  replace h2 := ct h2
  refine tc tbk 6 (.mk ?_)
  obtain ⟨c95, hX, hj⟩ := esc_e h2; subst hj; replace h1 := hX.trans (sel_r h1)
  obtain ⟨c96, hX, hj⟩ := esc_e h1; subst hj; replace h0 := hX.trans (sel_r h0)
  obtain rfl := nxt_e h0
  refine wR hret (rT (rT .nil)) ?_
  exact CvL.tup (.cons (.nil _) (.cons (.refl _) .nil))
  replace h2 := ct h2
  refine w_rangeD [0, 0, 2, 7, 15] (fun i => bif Nat.beq i 1 then ([2]) else bif Nat.beq i 2 then ([2]) else []) (fun i => [2]) 4 [0, 1, 2, 3] mixed (by kernel_rfl) rfl rfl rfl rfl rfl rfl rfl rfl rfl rfl rfl rfl rfl Try.underlying9 ?_
  refine eP (fun H hH => yv_callP rfl rfl .nil cal20 (CvL.refl _) forms20_c) ?_
  refine eF fo28_0 ?_
  refine eL sh3 ?_
  refine de_as 23 (int 12) rfl (congrArg int (of_decide_eq_true e28)) ?_
  refine de_pure rfl rfl rfl rfl (fun H hH => yv_indexA rfl Try.underlying46 sh45 rfl rfl (by decide) rfl) ?_
  refine ⟨_, rfl, rfl, fun b97 => ?_⟩
  refine tc tbk 13 (.mk ?_)
  refine sY (yv_to (y := boo false) (yv_eql rfl rfl rfl) (congrArg boo (by decide))) ?_
  refine tr tbk 4 (.mk ?_)
  obtain ⟨j98, h3, h2⟩ := bind_e h2
  refine rse (Out := fun y H' => (∃ (a : Unit) (k : Unit), a = j98 ∧ y = .pt 2 v15 0 1 ∧ H' = hk [(1, ⟨87, 2, true, true, w0_1, [[str x14.1, boo x14.2]]⟩), (2, ⟨28, 9, true, true, v15, [[int x13, int 0, int 0, int 0, int 0, int 0, int 0, int 0, .sc (.slice none 0 0)]]⟩), (4, ⟨28, 9, true, true, w1_1, y1_4.map GOp.av⟩)])) rfl rfl rfl (yl_call rfl rfl (.cons rfl (.cons rfl .nil)) cal23 ?_) ?_
  refine pcw (c := _) Try.func23 rfl rfl ?_; intro Q hret hnorm
  refine tc tbk 12 (.mk ?_)
  refine sY (yv_to (y := boo true) (yv_eql rfl rfl rfl) (congrArg boo (by decide))) ?_
  refine tr tbk 10 (.mk ?_)
  obtain rfl := nxt_e h3
  refine w_ret (hret _ _ (hk [(1, ⟨87, 2, true, true, w0_1, [[str x14.1, boo x14.2]]⟩), (2, ⟨28, 9, true, true, v15, [[int x13, int 0, int 0, int 0, int 0, int 0, int 0, int 0, .sc (.slice none 0 0)]]⟩), (4, ⟨28, 9, true, true, w1_1, y1_4.map GOp.av⟩)]) (.tmp rfl .nil) (HK.le ⟨rfl, rfl, rfl, trivial⟩) ?_)
  exact ⟨(), (), rfl, rfl, rfl⟩
  rintro y _ ⟨_, _, rfl, hc, rfl⟩
  subst hc
  refine tr tbk 1 (.mk ?_)
  obtain ⟨p99, h2⟩ := asrt_e h2
  obtain ⟨x100, e100, h2⟩ := bnd_e h2
  obtain ⟨x101, e101, h2⟩ := bnd_e h2
  refine rse rfl rfl rfl (yl_call rfl rfl (.cons rfl .nil) cal31 (PC.mono (numP_c (s := x14) (id := 1) (ver := w0_1) rfl p99) (R' := fun y H' => y = int x100 ∧ H' = upd _ 1 (some (rdr 87 w0_1 x101))) (fun y H' h => ⟨h.1.trans (congrArg int e100), h.2.trans (rdr_cong e101)⟩))) ?_; rintro _ _ ⟨rfl, rfl⟩
  refine tr tbk 1 (.mk ?_)
  refine sS ⟨28, 9, true, true, v15, [[int x13, int x100, int 0, int 0, int 0, int 0, int 0, int 0, .sc (.slice none 0 0)]]⟩ sh3 ?_
  refine tr tbk 15 (.mk ?_)
  refine sY (yv_to (y := boo false) (yv_eql rfl rfl rfl) (congrArg boo (by decide))) ?_
  refine tr tbk 4 (.mk ?_)
  obtain ⟨j102, h3, h2⟩ := bind_e h2
  refine rse (Out := fun y H' => (∃ (a : Unit) (k : Unit), a = j102 ∧ y = .pt 2 v15 0 2 ∧ H' = hk [(1, ⟨87, 2, true, true, w0_1, [[str x101.1, boo x101.2]]⟩), (2, ⟨28, 9, true, true, v15, [[int x13, int x100, int 0, int 0, int 0, int 0, int 0, int 0, .sc (.slice none 0 0)]]⟩), (4, ⟨28, 9, true, true, w1_1, y1_4.map GOp.av⟩)])) rfl rfl rfl (yl_call rfl rfl (.cons rfl (.cons rfl .nil)) cal23 ?_) ?_
  refine pcw (c := _) Try.func23 rfl rfl ?_; intro Q hret hnorm
  refine tc tbk 12 (.mk ?_)
  refine sY (yv_to (y := boo false) (yv_eql rfl rfl rfl) (congrArg boo (by decide))) ?_
  refine tr tbk 5 (.mk ?_)
  refine sY (yv_to (y := boo true) (yv_eql rfl rfl rfl) (congrArg boo (by decide))) ?_
  refine tr tbk 10 (.mk ?_)
  obtain rfl := nxt_e h3
  refine w_ret (hret _ _ (hk [(1, ⟨87, 2, true, true, w0_1, [[str x101.1, boo x101.2]]⟩), (2, ⟨28, 9, true, true, v15, [[int x13, int x100, int 0, int 0, int 0, int 0, int 0, int 0, .sc (.slice none 0 0)]]⟩), (4, ⟨28, 9, true, true, w1_1, y1_4.map GOp.av⟩)]) (.tmp rfl .nil) (HK.le ⟨rfl, rfl, rfl, trivial⟩) ?_)
  exact ⟨(), (), rfl, rfl, rfl⟩
  rintro y _ ⟨_, _, rfl, hc, rfl⟩
  subst hc
  refine tr tbk 1 (.mk ?_)
  obtain ⟨p103, h2⟩ := asrt_e h2
  obtain ⟨x104, e104, h2⟩ := bnd_e h2
  obtain ⟨x105, e105, h2⟩ := bnd_e h2
  refine rse rfl rfl rfl (yl_call rfl rfl (.cons rfl .nil) cal31 (PC.mono (numP_c (s := x101) (id := 1) (ver := w0_1) rfl p103) (R' := fun y H' => y = int x104 ∧ H' = upd _ 1 (some (rdr 87 w0_1 x105))) (fun y H' h => ⟨h.1.trans (congrArg int e104), h.2.trans (rdr_cong e105)⟩))) ?_; rintro _ _ ⟨rfl, rfl⟩
  refine tr tbk 1 (.mk ?_)
  refine sS ⟨28, 9, true, true, v15, [[int x13, int x100, int x104, int 0, int 0, int 0, int 0, int 0, .sc (.slice none 0 0)]]⟩ sh3 ?_
  refine tr tbk 15 (.mk ?_)
  refine sY (yv_to (y := boo false) (yv_eql rfl rfl rfl) (congrArg boo (by decide))) ?_
  refine tr tbk 4 (.mk ?_)
  obtain ⟨j106, h3, h2⟩ := bind_e h2
  refine rse (Out := fun y H' => (∃ (a : Unit) (k : Unit), a = j106 ∧ y = .pt 2 v15 0 3 ∧ H' = hk [(1, ⟨87, 2, true, true, w0_1, [[str x105.1, boo x105.2]]⟩), (2, ⟨28, 9, true, true, v15, [[int x13, int x100, int x104, int 0, int 0, int 0, int 0, int 0, .sc (.slice none 0 0)]]⟩), (4, ⟨28, 9, true, true, w1_1, y1_4.map GOp.av⟩)])) rfl rfl rfl (yl_call rfl rfl (.cons rfl (.cons rfl .nil)) cal23 ?_) ?_
  refine pcw (c := _) Try.func23 rfl rfl ?_; intro Q hret hnorm
  refine tc tbk 12 (.mk ?_)
  refine sY (yv_to (y := boo false) (yv_eql rfl rfl rfl) (congrArg boo (by decide))) ?_
  refine tr tbk 5 (.mk ?_)
  refine sY (yv_to (y := boo false) (yv_eql rfl rfl rfl) (congrArg boo (by decide))) ?_
  refine tr tbk 5 (.mk ?_)
  refine sY (yv_to (y := boo true) (yv_eql rfl rfl rfl) (congrArg boo (by decide))) ?_
  refine tr tbk 10 (.mk ?_)
  obtain rfl := nxt_e h3
  refine w_ret (hret _ _ (hk [(1, ⟨87, 2, true, true, w0_1, [[str x105.1, boo x105.2]]⟩), (2, ⟨28, 9, true, true, v15, [[int x13, int x100, int x104, int 0, int 0, int 0, int 0, int 0, .sc (.slice none 0 0)]]⟩), (4, ⟨28, 9, true, true, w1_1, y1_4.map GOp.av⟩)]) (.tmp rfl .nil) (HK.le ⟨rfl, rfl, rfl, trivial⟩) ?_)
  exact ⟨(), (), rfl, rfl, rfl⟩
  rintro y _ ⟨_, _, rfl, hc, rfl⟩
  subst hc
  refine tr tbk 1 (.mk ?_)
  obtain ⟨p107, h2⟩ := asrt_e h2
  obtain ⟨x108, e108, h2⟩ := bnd_e h2
  obtain ⟨x109, e109, h2⟩ := bnd_e h2
  refine rse rfl rfl rfl (yl_call rfl rfl (.cons rfl .nil) cal31 (PC.mono (numP_c (s := x105) (id := 1) (ver := w0_1) rfl p107) (R' := fun y H' => y = int x108 ∧ H' = upd _ 1 (some (rdr 87 w0_1 x109))) (fun y H' h => ⟨h.1.trans (congrArg int e108), h.2.trans (rdr_cong e109)⟩))) ?_; rintro _ _ ⟨rfl, rfl⟩
  refine tr tbk 1 (.mk ?_)
  refine sS ⟨28, 9, true, true, v15, [[int x13, int x100, int x104, int x108, int 0, int 0, int 0, int 0, .sc (.slice none 0 0)]]⟩ sh3 ?_
  refine tr tbk 15 (.mk ?_)
  refine sY (yv_to (y := boo false) (yv_eql rfl rfl rfl) (congrArg boo (by decide))) ?_
  refine tr tbk 4 (.mk ?_)
  obtain ⟨j110, h3, h2⟩ := bind_e h2
  refine rse (Out := fun y H' => (∃ (a : Unit) (k : Unit), a = j110 ∧ y = .pt 2 v15 0 4 ∧ H' = hk [(1, ⟨87, 2, true, true, w0_1, [[str x109.1, boo x109.2]]⟩), (2, ⟨28, 9, true, true, v15, [[int x13, int x100, int x104, int x108, int 0, int 0, int 0, int 0, .sc (.slice none 0 0)]]⟩), (4, ⟨28, 9, true, true, w1_1, y1_4.map GOp.av⟩)])) rfl rfl rfl (yl_call rfl rfl (.cons rfl (.cons rfl .nil)) cal23 ?_) ?_
  refine pcw (c := _) Try.func23 rfl rfl ?_; intro Q hret hnorm
  refine tc tbk 12 (.mk ?_)
  refine sY (yv_to (y := boo false) (yv_eql rfl rfl rfl) (congrArg boo (by decide))) ?_
  refine tr tbk 5 (.mk ?_)
  refine sY (yv_to (y := boo false) (yv_eql rfl rfl rfl) (congrArg boo (by decide))) ?_
  refine tr tbk 5 (.mk ?_)
  refine sY (yv_to (y := boo false) (yv_eql rfl rfl rfl) (congrArg boo (by decide))) ?_
  refine tr tbk 5 (.mk ?_)
  refine sY (yv_to (y := boo true) (yv_eql rfl rfl rfl) (congrArg boo (by decide))) ?_
  refine tr tbk 10 (.mk ?_)
  obtain rfl := nxt_e h3
  refine w_ret (hret _ _ (hk [(1, ⟨87, 2, true, true, w0_1, [[str x109.1, boo x109.2]]⟩), (2, ⟨28, 9, true, true, v15, [[int x13, int x100, int x104, int x108, int 0, int 0, int 0, int 0, .sc (.slice none 0 0)]]⟩), (4, ⟨28, 9, true, true, w1_1, y1_4.map GOp.av⟩)]) (.tmp rfl .nil) (HK.le ⟨rfl, rfl, rfl, trivial⟩) ?_)
  exact ⟨(), (), rfl, rfl, rfl⟩
  rintro y _ ⟨_, _, rfl, hc, rfl⟩
  subst hc
  refine tr tbk 1 (.mk ?_)
  obtain ⟨p111, h2⟩ := asrt_e h2
  obtain ⟨x112, e112, h2⟩ := bnd_e h2
  obtain ⟨x113, e113, h2⟩ := bnd_e h2
  refine rse rfl rfl rfl (yl_call rfl rfl (.cons rfl .nil) cal31 (PC.mono (numP_c (s := x109) (id := 1) (ver := w0_1) rfl p111) (R' := fun y H' => y = int x112 ∧ H' = upd _ 1 (some (rdr 87 w0_1 x113))) (fun y H' h => ⟨h.1.trans (congrArg int e112), h.2.trans (rdr_cong e113)⟩))) ?_; rintro _ _ ⟨rfl, rfl⟩
  refine tr tbk 1 (.mk ?_)
  refine sS ⟨28, 9, true, true, v15, [[int x13, int x100, int x104, int x108, int x112, int 0, int 0, int 0, .sc (.slice none 0 0)]]⟩ sh3 ?_
  refine tr tbk 15 (.mk ?_)
  refine sY (yv_to (y := boo false) (yv_eql rfl rfl rfl) (congrArg boo (by decide))) ?_
  refine tr tbk 4 (.mk ?_)
  obtain ⟨j114, h3, h2⟩ := bind_e h2
  refine rse (Out := fun y H' => (∃ (a : Unit) (k : Unit), a = j114 ∧ y = .pt 2 v15 0 5 ∧ H' = hk [(1, ⟨87, 2, true, true, w0_1, [[str x113.1, boo x113.2]]⟩), (2, ⟨28, 9, true, true, v15, [[int x13, int x100, int x104, int x108, int x112, int 0, int 0, int 0, .sc (.slice none 0 0)]]⟩), (4, ⟨28, 9, true, true, w1_1, y1_4.map GOp.av⟩)])) rfl rfl rfl (yl_call rfl rfl (.cons rfl (.cons rfl .nil)) cal23 ?_) ?_
  refine pcw (c := _) Try.func23 rfl rfl ?_; intro Q hret hnorm
  refine tc tbk 12 (.mk ?_)
  refine sY (yv_to (y := boo false) (yv_eql rfl rfl rfl) (congrArg boo (by decide))) ?_
  refine tr tbk 5 (.mk ?_)
  refine sY (yv_to (y := boo false) (yv_eql rfl rfl rfl) (congrArg boo (by decide))) ?_
  refine tr tbk 5 (.mk ?_)
  refine sY (yv_to (y := boo false) (yv_eql rfl rfl rfl) (congrArg boo (by decide))) ?_
  refine tr tbk 5 (.mk ?_)
  refine sY (yv_to (y := boo false) (yv_eql rfl rfl rfl) (congrArg boo (by decide))) ?_
  refine tr tbk 5 (.mk ?_)
  refine sY (yv_to (y := boo true) (yv_eql rfl rfl rfl) (congrArg boo (by decide))) ?_
  refine tr tbk 10 (.mk ?_)
  obtain rfl := nxt_e h3
  refine w_ret (hret _ _ (hk [(1, ⟨87, 2, true, true, w0_1, [[str x113.1, boo x113.2]]⟩), (2, ⟨28, 9, true, true, v15, [[int x13, int x100, int x104, int x108, int x112, int 0, int 0, int 0, .sc (.slice none 0 0)]]⟩), (4, ⟨28, 9, true, true, w1_1, y1_4.map GOp.av⟩)]) (.tmp rfl .nil) (HK.le ⟨rfl, rfl, rfl, trivial⟩) ?_)
  exact ⟨(), (), rfl, rfl, rfl⟩
  rintro y _ ⟨_, _, rfl, hc, rfl⟩
  subst hc
  refine tr tbk 1 (.mk ?_)
  obtain ⟨p115, h2⟩ := asrt_e h2
  obtain ⟨x116, e116, h2⟩ := bnd_e h2
  obtain ⟨x117, e117, h2⟩ := bnd_e h2
  refine rse rfl rfl rfl (yl_call rfl rfl (.cons rfl .nil) cal31 (PC.mono (numP_c (s := x113) (id := 1) (ver := w0_1) rfl p115) (R' := fun y H' => y = int x116 ∧ H' = upd _ 1 (some (rdr 87 w0_1 x117))) (fun y H' h => ⟨h.1.trans (congrArg int e116), h.2.trans (rdr_cong e117)⟩))) ?_; rintro _ _ ⟨rfl, rfl⟩
  refine tr tbk 1 (.mk ?_)
  refine sS ⟨28, 9, true, true, v15, [[int x13, int x100, int x104, int x108, int x112, int x116, int 0, int 0, .sc (.slice none 0 0)]]⟩ sh3 ?_
  refine tr tbk 15 (.mk ?_)
  refine sY (yv_to (y := boo false) (yv_eql rfl rfl rfl) (congrArg boo (by decide))) ?_
  refine tr tbk 4 (.mk ?_)
  obtain ⟨j118, h3, h2⟩ := bind_e h2
  refine rse (Out := fun y H' => (∃ (a : Unit) (k : Unit), a = j118 ∧ y = .pt 2 v15 0 6 ∧ H' = hk [(1, ⟨87, 2, true, true, w0_1, [[str x117.1, boo x117.2]]⟩), (2, ⟨28, 9, true, true, v15, [[int x13, int x100, int x104, int x108, int x112, int x116, int 0, int 0, .sc (.slice none 0 0)]]⟩), (4, ⟨28, 9, true, true, w1_1, y1_4.map GOp.av⟩)])) rfl rfl rfl (yl_call rfl rfl (.cons rfl (.cons rfl .nil)) cal23 ?_) ?_
  refine pcw (c := _) Try.func23 rfl rfl ?_; intro Q hret hnorm
  refine tc tbk 12 (.mk ?_)
  refine sY (yv_to (y := boo false) (yv_eql rfl rfl rfl) (congrArg boo (by decide))) ?_
  refine tr tbk 5 (.mk ?_)
  refine sY (yv_to (y := boo false) (yv_eql rfl rfl rfl) (congrArg boo (by decide))) ?_
  refine tr tbk 5 (.mk ?_)
  refine sY (yv_to (y := boo false) (yv_eql rfl rfl rfl) (congrArg boo (by decide))) ?_
  refine tr tbk 5 (.mk ?_)
  refine sY (yv_to (y := boo false) (yv_eql rfl rfl rfl) (congrArg boo (by decide))) ?_
  refine tr tbk 5 (.mk ?_)
  refine sY (yv_to (y := boo false) (yv_eql rfl rfl rfl) (congrArg boo (by decide))) ?_
  refine tr tbk 5 (.mk ?_)
  refine sY (yv_to (y := boo true) (yv_eql rfl rfl rfl) (congrArg boo (by decide))) ?_
  refine tr tbk 10 (.mk ?_)
  obtain rfl := nxt_e h3
  refine w_ret (hret _ _ (hk [(1, ⟨87, 2, true, true, w0_1, [[str x117.1, boo x117.2]]⟩), (2, ⟨28, 9, true, true, v15, [[int x13, int x100, int x104, int x108, int x112, int x116, int 0, int 0, .sc (.slice none 0 0)]]⟩), (4, ⟨28, 9, true, true, w1_1, y1_4.map GOp.av⟩)]) (.tmp rfl .nil) (HK.le ⟨rfl, rfl, rfl, trivial⟩) ?_)
  exact ⟨(), (), rfl, rfl, rfl⟩
  rintro y _ ⟨_, _, rfl, hc, rfl⟩
  subst hc
  refine tr tbk 1 (.mk ?_)
  obtain ⟨p119, h2⟩ := asrt_e h2
  obtain ⟨x120, e120, h2⟩ := bnd_e h2
  obtain ⟨x121, e121, h2⟩ := bnd_e h2
  refine rse rfl rfl rfl (yl_call rfl rfl (.cons rfl .nil) cal31 (PC.mono (numP_c (s := x117) (id := 1) (ver := w0_1) rfl p119) (R' := fun y H' => y = int x120 ∧ H' = upd _ 1 (some (rdr 87 w0_1 x121))) (fun y H' h => ⟨h.1.trans (congrArg int e120), h.2.trans (rdr_cong e121)⟩))) ?_; rintro _ _ ⟨rfl, rfl⟩
  refine tr tbk 1 (.mk ?_)
  refine sS ⟨28, 9, true, true, v15, [[int x13, int x100, int x104, int x108, int x112, int x116, int x120, int 0, .sc (.slice none 0 0)]]⟩ sh3 ?_
  refine tr tbk 8 (.mk ?_)
  refine jn h2 [2, 3, 4, 5, 6, 15, 16] [1, 2, 4] (fun (a : Bool) (k : Unit) => [(45, boo a)]) (fun a k => []) ⟨fun j122 h3 => ?_, ?_⟩
  refine tc tbk 2 (.mk ?_)
  refine sY (yv_callR rfl rfl (.cons rfl .nil) cal32 (badP_c (s := x121) (id := 1) (ver := w0_1) rfl) (.sc _)) ?_
  refine tr tbk 1 (.mk ?_)
  obtain ⟨x123, e123, h3⟩ := bnd_e h3
  refine rsas 40 (boo x123) rfl (congrArg boo e123) ?_
  refine rsas 41 (boo x123) rfl (congrArg boo e123) ?_
  cases x123
  replace h3 := cf h3
  refine tr tbk 1 (.mk ?_)
  obtain ⟨x124, e124, h3⟩ := bind_e h3
  refine sY (yv_callP rfl rfl (.cons rfl .nil) cal8 (.cons (CvL.agg (.cons (.refl _) (.cons (.refl _) (.cons (.refl _) (.cons (.refl _) (.cons (.refl _) (.cons (.refl _) (.cons (.refl _) (.cons (.refl _) (.cons (.nil _) .nil)))))))))) .nil) (d_ops_Check_c e124)) ?_
  refine nb tbk h3 fun x125 h3 => ?_
  refine tr tbk 2 (.mk ?_)
  exact lf h3 () leA
  replace h3 := ct h3
  refine tr tbk 5 (.mk ?_)
  exact lf h3 () leA
  rintro y3_1 _ h2
  cases y3_1
  replace h2 := cf h2
  refine tc tbk 5 (.mk ?_)
  refine sY (yv_buildSlice (ps := [(0, _)]) (rows := [[int x13, int x100, int x104, int x108, int x112, int x116, int x120, int 0, .sc (.slice none 0 0)]]) rfl Try.underlying22 bz28 (.cons rfl .nil) (by kernel_rfl) rfl rfl rfl) ?_
  obtain ⟨x126, e126, h2⟩ := bnd_e h2
  obtain ⟨p127, h2⟩ := asrt_e h2
  refine rse rfl rfl rfl (yl_appT (g := GOp.av) (l := y1_4) (m := [(⟨x13, x100, x104, x108, x112, x116, x120, 0, []⟩ : GOp)]) .any rfl Try.underlying22 bz28 by28 rfl rfl rfl rfl rfl rfl rfl rfl rfl rfl (Eq.symm rfl) (CvLL.list (.cons (.cons (.refl _) (.cons (.refl _) (.cons (.refl _) (.cons (.refl _) (.cons (.refl _) (.cons (.refl _) (.cons (.refl _) (.cons (.refl _) (.cons (.nil _) .nil))))))))) .nil)) (fun _ => rfl) e126 p127) ?_; rintro _ _ ⟨v128, -, rfl, rfl⟩
  refine tr tbk 3 (.mk ?_)
  exact lfE h2 v128 leA
  replace h2 := ct h2
  refine tc tbk 6 (.mk ?_)
  obtain ⟨c129, hX, hj⟩ := esc_e h2; subst hj; replace h1 := hX.trans (sel_r h1)
  obtain ⟨c130, hX, hj⟩ := esc_e h1; subst hj; replace h0 := hX.trans (sel_r h0)
  obtain rfl := nxt_e h0
  refine wR hret (rT (rT .nil)) ?_
  exact CvL.tup (.cons (.nil _) (.cons (.refl _) .nil))
  replace h2 := ct h2
  refine w_rangeD [0, 0, 2, 7, 15] (fun i => bif Nat.beq i 1 then ([2]) else bif Nat.beq i 2 then ([2]) else []) (fun i => [2]) 4 [0, 1, 2, 3] mixed (by kernel_rfl) rfl rfl rfl rfl rfl rfl rfl rfl rfl rfl rfl rfl rfl Try.underlying9 ?_
  refine eP (fun H hH => yv_callP rfl rfl .nil cal20 (CvL.refl _) forms20_c) ?_
  refine eF fo28_0 ?_
  refine eL sh3 ?_
  refine de_as 23 (int 11) rfl (congrArg int (of_decide_eq_true e27)) ?_
  refine de_pure rfl rfl rfl rfl (fun H hH => yv_indexA rfl Try.underlying46 sh45 rfl rfl (by decide) rfl) ?_
  refine ⟨_, rfl, rfl, fun b131 => ?_⟩
  refine tc tbk 13 (.mk ?_)
  refine sY (yv_to (y := boo false) (yv_eql rfl rfl rfl) (congrArg boo (by decide))) ?_
  refine tr tbk 4 (.mk ?_)
  obtain ⟨j132, h3, h2⟩ := bind_e h2
  refine rse (Out := fun y H' => (∃ (a : Unit) (k : Unit), a = j132 ∧ y = .pt 2 v15 0 4 ∧ H' = hk [(1, ⟨87, 2, true, true, w0_1, [[str x14.1, boo x14.2]]⟩), (2, ⟨28, 9, true, true, v15, [[int x13, int 0, int 0, int 0, int 0, int 0, int 0, int 0, .sc (.slice none 0 0)]]⟩), (4, ⟨28, 9, true, true, w1_1, y1_4.map GOp.av⟩)])) rfl rfl rfl (yl_call rfl rfl (.cons rfl (.cons rfl .nil)) cal23 ?_) ?_
  refine pcw (c := _) Try.func23 rfl rfl ?_; intro Q hret hnorm
  refine tc tbk 12 (.mk ?_)
  refine sY (yv_to (y := boo false) (yv_eql rfl rfl rfl) (congrArg boo (by decide))) ?_
  refine tr tbk 5 (.mk ?_)
  refine sY (yv_to (y := boo false) (yv_eql rfl rfl rfl) (congrArg boo (by decide))) ?_
  refine tr tbk 5 (.mk ?_)
  refine sY (yv_to (y := boo false) (yv_eql rfl rfl rfl) (congrArg boo (by decide))) ?_
  refine tr tbk 5 (.mk ?_)
  refine sY (yv_to (y := boo true) (yv_eql rfl rfl rfl) (congrArg boo (by decide))) ?_
  refine tr tbk 10 (.mk ?_)
  obtain rfl := nxt_e h3
  refine w_ret (hret _ _ (hk [(1, ⟨87, 2, true, true, w0_1, [[str x14.1, boo x14.2]]⟩), (2, ⟨28, 9, true, true, v15, [[int x13, int 0, int 0, int 0, int 0, int 0, int 0, int 0, .sc (.slice none 0 0)]]⟩), (4, ⟨28, 9, true, true, w1_1, y1_4.map GOp.av⟩)]) (.tmp rfl .nil) (HK.le ⟨rfl, rfl, rfl, trivial⟩) ?_)
  exact ⟨(), (), rfl, rfl, rfl⟩
  rintro y _ ⟨_, _, rfl, hc, rfl⟩
  subst hc
  refine tr tbk 1 (.mk ?_)
  obtain ⟨p133, h2⟩ := asrt_e h2
  obtain ⟨x134, e134, h2⟩ := bnd_e h2
  obtain ⟨x135, e135, h2⟩ := bnd_e h2
  refine rse rfl rfl rfl (yl_call rfl rfl (.cons rfl .nil) cal31 (PC.mono (numP_c (s := x14) (id := 1) (ver := w0_1) rfl p133) (R' := fun y H' => y = int x134 ∧ H' = upd _ 1 (some (rdr 87 w0_1 x135))) (fun y H' h => ⟨h.1.trans (congrArg int e134), h.2.trans (rdr_cong e135)⟩))) ?_; rintro _ _ ⟨rfl, rfl⟩
  refine tr tbk 1 (.mk ?_)
  refine sS ⟨28, 9, true, true, v15, [[int x13, int 0, int 0, int 0, int x134, int 0, int 0, int 0, .sc (.slice none 0 0)]]⟩ sh3 ?_
  refine tr tbk 15 (.mk ?_)
  refine sY (yv_to (y := boo false) (yv_eql rfl rfl rfl) (congrArg boo (by decide))) ?_
  refine tr tbk 4 (.mk ?_)
  obtain ⟨j136, h3, h2⟩ := bind_e h2
  refine rse (Out := fun y H' => (∃ (a : Unit) (k : Unit), a = j136 ∧ y = .pt 2 v15 0 6 ∧ H' = hk [(1, ⟨87, 2, true, true, w0_1, [[str x135.1, boo x135.2]]⟩), (2, ⟨28, 9, true, true, v15, [[int x13, int 0, int 0, int 0, int x134, int 0, int 0, int 0, .sc (.slice none 0 0)]]⟩), (4, ⟨28, 9, true, true, w1_1, y1_4.map GOp.av⟩)])) rfl rfl rfl (yl_call rfl rfl (.cons rfl (.cons rfl .nil)) cal23 ?_) ?_
  refine pcw (c := _) Try.func23 rfl rfl ?_; intro Q hret hnorm
  refine tc tbk 12 (.mk ?_)
  refine sY (yv_to (y := boo false) (yv_eql rfl rfl rfl) (congrArg boo (by decide))) ?_
  refine tr tbk 5 (.mk ?_)
  refine sY (yv_to (y := boo false) (yv_eql rfl rfl rfl) (congrArg boo (by decide))) ?_
  refine tr tbk 5 (.mk ?_)
  refine sY (yv_to (y := boo false) (yv_eql rfl rfl rfl) (congrArg boo (by decide))) ?_
  refine tr tbk 5 (.mk ?_)
  refine sY (yv_to (y := boo false) (yv_eql rfl rfl rfl) (congrArg boo (by decide))) ?_
  refine tr tbk 5 (.mk ?_)
  refine sY (yv_to (y := boo false) (yv_eql rfl rfl rfl) (congrArg boo (by decide))) ?_
  refine tr tbk 5 (.mk ?_)
  refine sY (yv_to (y := boo true) (yv_eql rfl rfl rfl) (congrArg boo (by decide))) ?_
  refine tr tbk 10 (.mk ?_)
  obtain rfl := nxt_e h3
  refine w_ret (hret _ _ (hk [(1, ⟨87, 2, true, true, w0_1, [[str x135.1, boo x135.2]]⟩), (2, ⟨28, 9, true, true, v15, [[int x13, int 0, int 0, int 0, int x134, int 0, int 0, int 0, .sc (.slice none 0 0)]]⟩), (4, ⟨28, 9, true, true, w1_1, y1_4.map GOp.av⟩)]) (.tmp rfl .nil) (HK.le ⟨rfl, rfl, rfl, trivial⟩) ?_)
  exact ⟨(), (), rfl, rfl, rfl⟩
  rintro y _ ⟨_, _, rfl, hc, rfl⟩
  subst hc
  refine tr tbk 1 (.mk ?_)
  obtain ⟨p137, h2⟩ := asrt_e h2
  obtain ⟨x138, e138, h2⟩ := bnd_e h2
  obtain ⟨x139, e139, h2⟩ := bnd_e h2
  refine rse rfl rfl rfl (yl_call rfl rfl (.cons rfl .nil) cal31 (PC.mono (numP_c (s := x135) (id := 1) (ver := w0_1) rfl p137) (R' := fun y H' => y = int x138 ∧ H' = upd _ 1 (some (rdr 87 w0_1 x139))) (fun y H' h => ⟨h.1.trans (congrArg int e138), h.2.trans (rdr_cong e139)⟩))) ?_; rintro _ _ ⟨rfl, rfl⟩
  refine tr tbk 1 (.mk ?_)
  refine sS ⟨28, 9, true, true, v15, [[int x13, int 0, int 0, int 0, int x134, int 0, int x138, int 0, .sc (.slice none 0 0)]]⟩ sh3 ?_
  refine tr tbk 15 (.mk ?_)
  refine sY (yv_to (y := boo true) (yv_eql rfl rfl rfl) (congrArg boo (by decide))) ?_
  refine tr tbk 4 (.mk ?_)
  obtain ⟨p140, h2⟩ := asrt_e h2
  obtain ⟨p141, h2⟩ := asrt_e h2
  obtain ⟨x142, e142, h2⟩ := bnd_e h2
  obtain ⟨x143, e143, h2⟩ := bnd_e h2
  refine rse rfl rfl rfl (yl_call rfl rfl (.cons rfl (.cons rfl .nil)) cal30 (PC.mono (listP_c (most := 40) (s := x139) (id := 1) (ver := w0_1) rfl p140 p141 rfl rfl) (R' := fun y H' => y = ints x142 ∧ H' = upd _ 1 (some (rdr 87 w0_1 x143))) (fun y H' h => ⟨h.1.trans (congrArg ints e142), h.2.trans (rdr_cong e143)⟩))) ?_; rintro _ _ ⟨rfl, rfl⟩
  refine tr tbk 1 (.mk ?_)
  refine sS ⟨28, 9, true, true, v15, [[int x13, int 0, int 0, int 0, int x134, int 0, int x138, int 0, lst 1 fI x142]]⟩ sh26 ?_
  refine tr tbk 8 (.mk ?_)
  refine jn h2 [2, 3, 4, 5, 6, 15, 16] [1, 2, 4] (fun (a : Bool) (k : Unit) => [(45, boo a)]) (fun a k => []) ⟨fun j144 h3 => ?_, ?_⟩
  refine tc tbk 2 (.mk ?_)
  refine sY (yv_callR rfl rfl (.cons rfl .nil) cal32 (badP_c (s := x143) (id := 1) (ver := w0_1) rfl) (.sc _)) ?_
  refine tr tbk 1 (.mk ?_)
  obtain ⟨x145, e145, h3⟩ := bnd_e h3
  refine rsas 40 (boo x145) rfl (congrArg boo e145) ?_
  refine rsas 41 (boo x145) rfl (congrArg boo e145) ?_
  cases x145
  replace h3 := cf h3
  refine tr tbk 1 (.mk ?_)
  obtain ⟨x146, e146, h3⟩ := bind_e h3
  refine sC cal8 (d_ops_Check_c e146) ?_
  refine nb tbk h3 fun x147 h3 => ?_
  refine tr tbk 2 (.mk ?_)
  exact lf h3 () leA
  replace h3 := ct h3
  refine tr tbk 5 (.mk ?_)
  exact lf h3 () leA
  rintro y3_1 _ h2
  cases y3_1
  replace h2 := cf h2
  refine tc tbk 5 (.mk ?_)
  refine sY (yv_to (y := lst 9 GOp.av ([(⟨x13, 0, 0, 0, x134, 0, x138, 0, x142⟩ : GOp)] : List GOp)) (yv_buildSlice (ps := [(0, _)]) (rows := [[int x13, int 0, int 0, int 0, int x134, int 0, int x138, int 0, lst 1 fI x142]]) rfl Try.underlying22 bz28 (.cons rfl .nil) (by kernel_rfl) rfl rfl rfl) rfl) ?_
  obtain ⟨x148, e148, h2⟩ := bnd_e h2
  obtain ⟨p149, h2⟩ := asrt_e h2
  refine rse rfl rfl rfl (yl_appT (g := GOp.av) (l := y1_4) (m := ([(⟨x13, 0, 0, 0, x134, 0, x138, 0, x142⟩ : GOp)] : List GOp)) .any rfl Try.underlying22 bz28 by28 rfl rfl rfl rfl rfl rfl rfl rfl rfl rfl (Eq.symm rfl) (.refl _) (fun _ => rfl) e148 p149) ?_; rintro _ _ ⟨v150, -, rfl, rfl⟩
  refine tr tbk 3 (.mk ?_)
  exact lfE h2 v150 leA
  replace h2 := ct h2
  refine tc tbk 6 (.mk ?_)
  obtain ⟨c151, hX, hj⟩ := esc_e h2; subst hj; replace h1 := hX.trans (sel_r h1)
  obtain ⟨c152, hX, hj⟩ := esc_e h1; subst hj; replace h0 := hX.trans (sel_r h0)
  obtain rfl := nxt_e h0
  refine wR hret (rT (rT .nil)) ?_
  exact CvL.tup (.cons (.nil _) (.cons (.refl _) .nil))
  replace h2 := ct h2
  refine w_rangeD [0, 0, 2, 7, 15] (fun i => bif Nat.beq i 1 then ([2]) else bif Nat.beq i 2 then ([2]) else []) (fun i => [2]) 4 [0, 1, 2, 3] mixed (by kernel_rfl) rfl rfl rfl rfl rfl rfl rfl rfl rfl rfl rfl rfl rfl Try.underlying9 ?_
  refine eP (fun H hH => yv_callP rfl rfl .nil cal20 (CvL.refl _) forms20_c) ?_
  refine eF fo28_0 ?_
  refine eL sh3 ?_
  refine de_as 23 (int 10) rfl (congrArg int (of_decide_eq_true e26)) ?_
  refine de_pure rfl rfl rfl rfl (fun H hH => yv_indexA rfl Try.underlying46 sh45 rfl rfl (by decide) rfl) ?_
  refine ⟨_, rfl, rfl, fun b153 => ?_⟩
  refine tc tbk 13 (.mk ?_)
  refine sY (yv_to (y := boo false) (yv_eql rfl rfl rfl) (congrArg boo (by decide))) ?_
  refine tr tbk 4 (.mk ?_)
  obtain ⟨j154, h3, h2⟩ := bind_e h2
  refine rse (Out := fun y H' => (∃ (a : Unit) (k : Unit), a = j154 ∧ y = .pt 2 v15 0 1 ∧ H' = hk [(1, ⟨87, 2, true, true, w0_1, [[str x14.1, boo x14.2]]⟩), (2, ⟨28, 9, true, true, v15, [[int x13, int 0, int 0, int 0, int 0, int 0, int 0, int 0, .sc (.slice none 0 0)]]⟩), (4, ⟨28, 9, true, true, w1_1, y1_4.map GOp.av⟩)])) rfl rfl rfl (yl_call rfl rfl (.cons rfl (.cons rfl .nil)) cal23 ?_) ?_
  refine pcw (c := _) Try.func23 rfl rfl ?_; intro Q hret hnorm
  refine tc tbk 12 (.mk ?_)
  refine sY (yv_to (y := boo true) (yv_eql rfl rfl rfl) (congrArg boo (by decide))) ?_
  refine tr tbk 10 (.mk ?_)
  obtain rfl := nxt_e h3
  refine w_ret (hret _ _ (hk [(1, ⟨87, 2, true, true, w0_1, [[str x14.1, boo x14.2]]⟩), (2, ⟨28, 9, true, true, v15, [[int x13, int 0, int 0, int 0, int 0, int 0, int 0, int 0, .sc (.slice none 0 0)]]⟩), (4, ⟨28, 9, true, true, w1_1, y1_4.map GOp.av⟩)]) (.tmp rfl .nil) (HK.le ⟨rfl, rfl, rfl, trivial⟩) ?_)
  exact ⟨(), (), rfl, rfl, rfl⟩
  rintro y _ ⟨_, _, rfl, hc, rfl⟩
  subst hc
  refine tr tbk 1 (.mk ?_)
  obtain ⟨p155, h2⟩ := asrt_e h2
  obtain ⟨x156, e156, h2⟩ := bnd_e h2
  obtain ⟨x157, e157, h2⟩ := bnd_e h2
  refine rse rfl rfl rfl (yl_call rfl rfl (.cons rfl .nil) cal31 (PC.mono (numP_c (s := x14) (id := 1) (ver := w0_1) rfl p155) (R' := fun y H' => y = int x156 ∧ H' = upd _ 1 (some (rdr 87 w0_1 x157))) (fun y H' h => ⟨h.1.trans (congrArg int e156), h.2.trans (rdr_cong e157)⟩))) ?_; rintro _ _ ⟨rfl, rfl⟩
  refine tr tbk 1 (.mk ?_)
  refine sS ⟨28, 9, true, true, v15, [[int x13, int x156, int 0, int 0, int 0, int 0, int 0, int 0, .sc (.slice none 0 0)]]⟩ sh3 ?_
  refine tr tbk 15 (.mk ?_)
  refine sY (yv_to (y := boo false) (yv_eql rfl rfl rfl) (congrArg boo (by decide))) ?_
  refine tr tbk 4 (.mk ?_)
  obtain ⟨j158, h3, h2⟩ := bind_e h2
  refine rse (Out := fun y H' => (∃ (a : Unit) (k : Unit), a = j158 ∧ y = .pt 2 v15 0 2 ∧ H' = hk [(1, ⟨87, 2, true, true, w0_1, [[str x157.1, boo x157.2]]⟩), (2, ⟨28, 9, true, true, v15, [[int x13, int x156, int 0, int 0, int 0, int 0, int 0, int 0, .sc (.slice none 0 0)]]⟩), (4, ⟨28, 9, true, true, w1_1, y1_4.map GOp.av⟩)])) rfl rfl rfl (yl_call rfl rfl (.cons rfl (.cons rfl .nil)) cal23 ?_) ?_
  refine pcw (c := _) Try.func23 rfl rfl ?_; intro Q hret hnorm
  refine tc tbk 12 (.mk ?_)
  refine sY (yv_to (y := boo false) (yv_eql rfl rfl rfl) (congrArg boo (by decide))) ?_
  refine tr tbk 5 (.mk ?_)
  refine sY (yv_to (y := boo true) (yv_eql rfl rfl rfl) (congrArg boo (by decide))) ?_
  refine tr tbk 10 (.mk ?_)
  obtain rfl := nxt_e h3
  refine w_ret (hret _ _ (hk [(1, ⟨87, 2, true, true, w0_1, [[str x157.1, boo x157.2]]⟩), (2, ⟨28, 9, true, true, v15, [[int x13, int x156, int 0, int 0, int 0, int 0, int 0, int 0, .sc (.slice none 0 0)]]⟩), (4, ⟨28, 9, true, true, w1_1, y1_4.map GOp.av⟩)]) (.tmp rfl .nil) (HK.le ⟨rfl, rfl, rfl, trivial⟩) ?_)
  exact ⟨(), (), rfl, rfl, rfl⟩
  rintro y _ ⟨_, _, rfl, hc, rfl⟩
  subst hc
  refine tr tbk 1 (.mk ?_)
  obtain ⟨p159, h2⟩ := asrt_e h2
  obtain ⟨x160, e160, h2⟩ := bnd_e h2
  obtain ⟨x161, e161, h2⟩ := bnd_e h2
  refine rse rfl rfl rfl (yl_call rfl rfl (.cons rfl .nil) cal31 (PC.mono (numP_c (s := x157) (id := 1) (ver := w0_1) rfl p159) (R' := fun y H' => y = int x160 ∧ H' = upd _ 1 (some (rdr 87 w0_1 x161))) (fun y H' h => ⟨h.1.trans (congrArg int e160), h.2.trans (rdr_cong e161)⟩))) ?_; rintro _ _ ⟨rfl, rfl⟩
  refine tr tbk 1 (.mk ?_)
  refine sS ⟨28, 9, true, true, v15, [[int x13, int x156, int x160, int 0, int 0, int 0, int 0, int 0, .sc (.slice none 0 0)]]⟩ sh3 ?_
  refine tr tbk 15 (.mk ?_)
  refine sY (yv_to (y := boo false) (yv_eql rfl rfl rfl) (congrArg boo (by decide))) ?_
  refine tr tbk 4 (.mk ?_)
  obtain ⟨j162, h3, h2⟩ := bind_e h2
  refine rse (Out := fun y H' => (∃ (a : Unit) (k : Unit), a = j162 ∧ y = .pt 2 v15 0 6 ∧ H' = hk [(1, ⟨87, 2, true, true, w0_1, [[str x161.1, boo x161.2]]⟩), (2, ⟨28, 9, true, true, v15, [[int x13, int x156, int x160, int 0, int 0, int 0, int 0, int 0, .sc (.slice none 0 0)]]⟩), (4, ⟨28, 9, true, true, w1_1, y1_4.map GOp.av⟩)])) rfl rfl rfl (yl_call rfl rfl (.cons rfl (.cons rfl .nil)) cal23 ?_) ?_
  refine pcw (c := _) Try.func23 rfl rfl ?_; intro Q hret hnorm
  refine tc tbk 12 (.mk ?_)
  refine sY (yv_to (y := boo false) (yv_eql rfl rfl rfl) (congrArg boo (by decide))) ?_
  refine tr tbk 5 (.mk ?_)
  refine sY (yv_to (y := boo false) (yv_eql rfl rfl rfl) (congrArg boo (by decide))) ?_
  refine tr tbk 5 (.mk ?_)
  refine sY (yv_to (y := boo false) (yv_eql rfl rfl rfl) (congrArg boo (by decide))) ?_
  refine tr tbk 5 (.mk ?_)
  refine sY (yv_to (y := boo false) (yv_eql rfl rfl rfl) (congrArg boo (by decide))) ?_
  refine tr tbk 5 (.mk ?_)
  refine sY (yv_to (y := boo false) (yv_eql rfl rfl rfl) (congrArg boo (by decide))) ?_
  refine tr tbk 5 (.mk ?_)
  refine sY (yv_to (y := boo true) (yv_eql rfl rfl rfl) (congrArg boo (by decide))) ?_
  refine tr tbk 10 (.mk ?_)
  obtain rfl := nxt_e h3
  refine w_ret (hret _ _ (hk [(1, ⟨87, 2, true, true, w0_1, [[str x161.1, boo x161.2]]⟩), (2, ⟨28, 9, true, true, v15, [[int x13, int x156, int x160, int 0, int 0, int 0, int 0, int 0, .sc (.slice none 0 0)]]⟩), (4, ⟨28, 9, true, true, w1_1, y1_4.map GOp.av⟩)]) (.tmp rfl .nil) (HK.le ⟨rfl, rfl, rfl, trivial⟩) ?_)
  exact ⟨(), (), rfl, rfl, rfl⟩
  rintro y _ ⟨_, _, rfl, hc, rfl⟩
  subst hc
  refine tr tbk 1 (.mk ?_)
  obtain ⟨p163, h2⟩ := asrt_e h2
  obtain ⟨x164, e164, h2⟩ := bnd_e h2
  obtain ⟨x165, e165, h2⟩ := bnd_e h2
  refine rse rfl rfl rfl (yl_call rfl rfl (.cons rfl .nil) cal31 (PC.mono (numP_c (s := x161) (id := 1) (ver := w0_1) rfl p163) (R' := fun y H' => y = int x164 ∧ H' = upd _ 1 (some (rdr 87 w0_1 x165))) (fun y H' h => ⟨h.1.trans (congrArg int e164), h.2.trans (rdr_cong e165)⟩))) ?_; rintro _ _ ⟨rfl, rfl⟩
  refine tr tbk 1 (.mk ?_)
  refine sS ⟨28, 9, true, true, v15, [[int x13, int x156, int x160, int 0, int 0, int 0, int x164, int 0, .sc (.slice none 0 0)]]⟩ sh3 ?_
  refine tr tbk 8 (.mk ?_)
  refine jn h2 [2, 3, 4, 5, 6, 15, 16] [1, 2, 4] (fun (a : Bool) (k : Unit) => [(45, boo a)]) (fun a k => []) ⟨fun j166 h3 => ?_, ?_⟩
  refine tc tbk 2 (.mk ?_)
  refine sY (yv_callR rfl rfl (.cons rfl .nil) cal32 (badP_c (s := x165) (id := 1) (ver := w0_1) rfl) (.sc _)) ?_
  refine tr tbk 1 (.mk ?_)
  obtain ⟨x167, e167, h3⟩ := bnd_e h3
  refine rsas 40 (boo x167) rfl (congrArg boo e167) ?_
  refine rsas 41 (boo x167) rfl (congrArg boo e167) ?_
  cases x167
  replace h3 := cf h3
  refine tr tbk 1 (.mk ?_)
  obtain ⟨x168, e168, h3⟩ := bind_e h3
  refine sY (yv_callP rfl rfl (.cons rfl .nil) cal8 (.cons (CvL.agg (.cons (.refl _) (.cons (.refl _) (.cons (.refl _) (.cons (.refl _) (.cons (.refl _) (.cons (.refl _) (.cons (.refl _) (.cons (.refl _) (.cons (.nil _) .nil)))))))))) .nil) (d_ops_Check_c e168)) ?_
  refine nb tbk h3 fun x169 h3 => ?_
  refine tr tbk 2 (.mk ?_)
  exact lf h3 () leA
  replace h3 := ct h3
  refine tr tbk 5 (.mk ?_)
  exact lf h3 () leA
  rintro y3_1 _ h2
  cases y3_1
  replace h2 := cf h2
  refine tc tbk 5 (.mk ?_)
  refine sY (yv_buildSlice (ps := [(0, _)]) (rows := [[int x13, int x156, int x160, int 0, int 0, int 0, int x164, int 0, .sc (.slice none 0 0)]]) rfl Try.underlying22 bz28 (.cons rfl .nil) (by kernel_rfl) rfl rfl rfl) ?_
  obtain ⟨x170, e170, h2⟩ := bnd_e h2
  obtain ⟨p171, h2⟩ := asrt_e h2
  refine rse rfl rfl rfl (yl_appT (g := GOp.av) (l := y1_4) (m := [(⟨x13, x156, x160, 0, 0, 0, x164, 0, []⟩ : GOp)]) .any rfl Try.underlying22 bz28 by28 rfl rfl rfl rfl rfl rfl rfl rfl rfl rfl (Eq.symm rfl) (CvLL.list (.cons (.cons (.refl _) (.cons (.refl _) (.cons (.refl _) (.cons (.refl _) (.cons (.refl _) (.cons (.refl _) (.cons (.refl _) (.cons (.refl _) (.cons (.nil _) .nil))))))))) .nil)) (fun _ => rfl) e170 p171) ?_; rintro _ _ ⟨v172, -, rfl, rfl⟩
  refine tr tbk 3 (.mk ?_)
  exact lfE h2 v172 leA
  replace h2 := ct h2
  refine tc tbk 6 (.mk ?_)
  obtain ⟨c173, hX, hj⟩ := esc_e h2; subst hj; replace h1 := hX.trans (sel_r h1)
  obtain ⟨c174, hX, hj⟩ := esc_e h1; subst hj; replace h0 := hX.trans (sel_r h0)
  obtain rfl := nxt_e h0
  refine wR hret (rT (rT .nil)) ?_
  exact CvL.tup (.cons (.nil _) (.cons (.refl _) .nil))
  replace h2 := ct h2
  refine w_rangeD [0, 0, 2, 7, 15] (fun i => bif Nat.beq i 1 then ([2]) else bif Nat.beq i 2 then ([2]) else []) (fun i => [2]) 4 [0, 1, 2, 3] mixed (by kernel_rfl) rfl rfl rfl rfl rfl rfl rfl rfl rfl rfl rfl rfl rfl Try.underlying9 ?_
  refine eP (fun H hH => yv_callP rfl rfl .nil cal20 (CvL.refl _) forms20_c) ?_
  refine eF fo28_0 ?_
  refine eL sh3 ?_
  refine de_as 23 (int 9) rfl (congrArg int (of_decide_eq_true e25)) ?_
  refine de_pure rfl rfl rfl rfl (fun H hH => yv_indexA rfl Try.underlying46 sh45 rfl rfl (by decide) rfl) ?_
  refine ⟨_, rfl, rfl, fun b175 => ?_⟩
  refine tc tbk 13 (.mk ?_)
  refine sY (yv_to (y := boo false) (yv_eql rfl rfl rfl) (congrArg boo (by decide))) ?_
  refine tr tbk 4 (.mk ?_)
  obtain ⟨j176, h3, h2⟩ := bind_e h2
  refine rse (Out := fun y H' => (∃ (a : Unit) (k : Unit), a = j176 ∧ y = .pt 2 v15 0 1 ∧ H' = hk [(1, ⟨87, 2, true, true, w0_1, [[str x14.1, boo x14.2]]⟩), (2, ⟨28, 9, true, true, v15, [[int x13, int 0, int 0, int 0, int 0, int 0, int 0, int 0, .sc (.slice none 0 0)]]⟩), (4, ⟨28, 9, true, true, w1_1, y1_4.map GOp.av⟩)])) rfl rfl rfl (yl_call rfl rfl (.cons rfl (.cons rfl .nil)) cal23 ?_) ?_
  refine pcw (c := _) Try.func23 rfl rfl ?_; intro Q hret hnorm
  refine tc tbk 12 (.mk ?_)
  refine sY (yv_to (y := boo true) (yv_eql rfl rfl rfl) (congrArg boo (by decide))) ?_
  refine tr tbk 10 (.mk ?_)
  obtain rfl := nxt_e h3
  refine w_ret (hret _ _ (hk [(1, ⟨87, 2, true, true, w0_1, [[str x14.1, boo x14.2]]⟩), (2, ⟨28, 9, true, true, v15, [[int x13, int 0, int 0, int 0, int 0, int 0, int 0, int 0, .sc (.slice none 0 0)]]⟩), (4, ⟨28, 9, true, true, w1_1, y1_4.map GOp.av⟩)]) (.tmp rfl .nil) (HK.le ⟨rfl, rfl, rfl, trivial⟩) ?_)
  exact ⟨(), (), rfl, rfl, rfl⟩
  rintro y _ ⟨_, _, rfl, hc, rfl⟩
  subst hc
  refine tr tbk 1 (.mk ?_)
  obtain ⟨p177, h2⟩ := asrt_e h2
  obtain ⟨x178, e178, h2⟩ := bnd_e h2
  obtain ⟨x179, e179, h2⟩ := bnd_e h2
  refine rse rfl rfl rfl (yl_call rfl rfl (.cons rfl .nil) cal31 (PC.mono (numP_c (s := x14) (id := 1) (ver := w0_1) rfl p177) (R' := fun y H' => y = int x178 ∧ H' = upd _ 1 (some (rdr 87 w0_1 x179))) (fun y H' h => ⟨h.1.trans (congrArg int e178), h.2.trans (rdr_cong e179)⟩))) ?_; rintro _ _ ⟨rfl, rfl⟩
  refine tr tbk 1 (.mk ?_)
  refine sS ⟨28, 9, true, true, v15, [[int x13, int x178, int 0, int 0, int 0, int 0, int 0, int 0, .sc (.slice none 0 0)]]⟩ sh3 ?_
  refine tr tbk 15 (.mk ?_)
  refine sY (yv_to (y := boo false) (yv_eql rfl rfl rfl) (congrArg boo (by decide))) ?_
  refine tr tbk 4 (.mk ?_)
  obtain ⟨j180, h3, h2⟩ := bind_e h2
  refine rse (Out := fun y H' => (∃ (a : Unit) (k : Unit), a = j180 ∧ y = .pt 2 v15 0 2 ∧ H' = hk [(1, ⟨87, 2, true, true, w0_1, [[str x179.1, boo x179.2]]⟩), (2, ⟨28, 9, true, true, v15, [[int x13, int x178, int 0, int 0, int 0, int 0, int 0, int 0, .sc (.slice none 0 0)]]⟩), (4, ⟨28, 9, true, true, w1_1, y1_4.map GOp.av⟩)])) rfl rfl rfl (yl_call rfl rfl (.cons rfl (.cons rfl .nil)) cal23 ?_) ?_
  refine pcw (c := _) Try.func23 rfl rfl ?_; intro Q hret hnorm
  refine tc tbk 12 (.mk ?_)
  refine sY (yv_to (y := boo false) (yv_eql rfl rfl rfl) (congrArg boo (by decide))) ?_
  refine tr tbk 5 (.mk ?_)
  refine sY (yv_to (y := boo true) (yv_eql rfl rfl rfl) (congrArg boo (by decide))) ?_
  refine tr tbk 10 (.mk ?_)
  obtain rfl := nxt_e h3
  refine w_ret (hret _ _ (hk [(1, ⟨87, 2, true, true, w0_1, [[str x179.1, boo x179.2]]⟩), (2, ⟨28, 9, true, true, v15, [[int x13, int x178, int 0, int 0, int 0, int 0, int 0, int 0, .sc (.slice none 0 0)]]⟩), (4, ⟨28, 9, true, true, w1_1, y1_4.map GOp.av⟩)]) (.tmp rfl .nil) (HK.le ⟨rfl, rfl, rfl, trivial⟩) ?_)
  exact ⟨(), (), rfl, rfl, rfl⟩
  rintro y _ ⟨_, _, rfl, hc, rfl⟩
  subst hc
  refine tr tbk 1 (.mk ?_)
  obtain ⟨p181, h2⟩ := asrt_e h2
  obtain ⟨x182, e182, h2⟩ := bnd_e h2
  obtain ⟨x183, e183, h2⟩ := bnd_e h2
  refine rse rfl rfl rfl (yl_call rfl rfl (.cons rfl .nil) cal31 (PC.mono (numP_c (s := x179) (id := 1) (ver := w0_1) rfl p181) (R' := fun y H' => y = int x182 ∧ H' = upd _ 1 (some (rdr 87 w0_1 x183))) (fun y H' h => ⟨h.1.trans (congrArg int e182), h.2.trans (rdr_cong e183)⟩))) ?_; rintro _ _ ⟨rfl, rfl⟩
  refine tr tbk 1 (.mk ?_)
  refine sS ⟨28, 9, true, true, v15, [[int x13, int x178, int x182, int 0, int 0, int 0, int 0, int 0, .sc (.slice none 0 0)]]⟩ sh3 ?_
  refine tr tbk 15 (.mk ?_)
  refine sY (yv_to (y := boo false) (yv_eql rfl rfl rfl) (congrArg boo (by decide))) ?_
  refine tr tbk 4 (.mk ?_)
  obtain ⟨j184, h3, h2⟩ := bind_e h2
  refine rse (Out := fun y H' => (∃ (a : Unit) (k : Unit), a = j184 ∧ y = .pt 2 v15 0 6 ∧ H' = hk [(1, ⟨87, 2, true, true, w0_1, [[str x183.1, boo x183.2]]⟩), (2, ⟨28, 9, true, true, v15, [[int x13, int x178, int x182, int 0, int 0, int 0, int 0, int 0, .sc (.slice none 0 0)]]⟩), (4, ⟨28, 9, true, true, w1_1, y1_4.map GOp.av⟩)])) rfl rfl rfl (yl_call rfl rfl (.cons rfl (.cons rfl .nil)) cal23 ?_) ?_
  refine pcw (c := _) Try.func23 rfl rfl ?_; intro Q hret hnorm
  refine tc tbk 12 (.mk ?_)
  refine sY (yv_to (y := boo false) (yv_eql rfl rfl rfl) (congrArg boo (by decide))) ?_
  refine tr tbk 5 (.mk ?_)
  refine sY (yv_to (y := boo false) (yv_eql rfl rfl rfl) (congrArg boo (by decide))) ?_
  refine tr tbk 5 (.mk ?_)
  refine sY (yv_to (y := boo false) (yv_eql rfl rfl rfl) (congrArg boo (by decide))) ?_
  refine tr tbk 5 (.mk ?_)
  refine sY (yv_to (y := boo false) (yv_eql rfl rfl rfl) (congrArg boo (by decide))) ?_
  refine tr tbk 5 (.mk ?_)
  refine sY (yv_to (y := boo false) (yv_eql rfl rfl rfl) (congrArg boo (by decide))) ?_
  refine tr tbk 5 (.mk ?_)
  refine sY (yv_to (y := boo true) (yv_eql rfl rfl rfl) (congrArg boo (by decide))) ?_
  refine tr tbk 10 (.mk ?_)
  obtain rfl := nxt_e h3
  refine w_ret (hret _ _ (hk [(1, ⟨87, 2, true, true, w0_1, [[str x183.1, boo x183.2]]⟩), (2, ⟨28, 9, true, true, v15, [[int x13, int x178, int x182, int 0, int 0, int 0, int 0, int 0, .sc (.slice none 0 0)]]⟩), (4, ⟨28, 9, true, true, w1_1, y1_4.map GOp.av⟩)]) (.tmp rfl .nil) (HK.le ⟨rfl, rfl, rfl, trivial⟩) ?_)
  exact ⟨(), (), rfl, rfl, rfl⟩
  rintro y _ ⟨_, _, rfl, hc, rfl⟩
  subst hc
  refine tr tbk 1 (.mk ?_)
  obtain ⟨p185, h2⟩ := asrt_e h2
  obtain ⟨x186, e186, h2⟩ := bnd_e h2
  obtain ⟨x187, e187, h2⟩ := bnd_e h2
  refine rse rfl rfl rfl (yl_call rfl rfl (.cons rfl .nil) cal31 (PC.mono (numP_c (s := x183) (id := 1) (ver := w0_1) rfl p185) (R' := fun y H' => y = int x186 ∧ H' = upd _ 1 (some (rdr 87 w0_1 x187))) (fun y H' h => ⟨h.1.trans (congrArg int e186), h.2.trans (rdr_cong e187)⟩))) ?_; rintro _ _ ⟨rfl, rfl⟩
  refine tr tbk 1 (.mk ?_)
  refine sS ⟨28, 9, true, true, v15, [[int x13, int x178, int x182, int 0, int 0, int 0, int x186, int 0, .sc (.slice none 0 0)]]⟩ sh3 ?_
  refine tr tbk 8 (.mk ?_)
  refine jn h2 [2, 3, 4, 5, 6, 15, 16] [1, 2, 4] (fun (a : Bool) (k : Unit) => [(45, boo a)]) (fun a k => []) ⟨fun j188 h3 => ?_, ?_⟩
  refine tc tbk 2 (.mk ?_)
  refine sY (yv_callR rfl rfl (.cons rfl .nil) cal32 (badP_c (s := x187) (id := 1) (ver := w0_1) rfl) (.sc _)) ?_
  refine tr tbk 1 (.mk ?_)
  obtain ⟨x189, e189, h3⟩ := bnd_e h3
  refine rsas 40 (boo x189) rfl (congrArg boo e189) ?_
  refine rsas 41 (boo x189) rfl (congrArg boo e189) ?_
  cases x189
  replace h3 := cf h3
  refine tr tbk 1 (.mk ?_)
  obtain ⟨x190, e190, h3⟩ := bind_e h3
  refine sY (yv_callP rfl rfl (.cons rfl .nil) cal8 (.cons (CvL.agg (.cons (.refl _) (.cons (.refl _) (.cons (.refl _) (.cons (.refl _) (.cons (.refl _) (.cons (.refl _) (.cons (.refl _) (.cons (.refl _) (.cons (.nil _) .nil)))))))))) .nil) (d_ops_Check_c e190)) ?_
  refine nb tbk h3 fun x191 h3 => ?_
  refine tr tbk 2 (.mk ?_)
  exact lf h3 () leA
  replace h3 := ct h3
  refine tr tbk 5 (.mk ?_)
  exact lf h3 () leA
  rintro y3_1 _ h2
  cases y3_1
  replace h2 := cf h2
  refine tc tbk 5 (.mk ?_)
  refine sY (yv_buildSlice (ps := [(0, _)]) (rows := [[int x13, int x178, int x182, int 0, int 0, int 0, int x186, int 0, .sc (.slice none 0 0)]]) rfl Try.underlying22 bz28 (.cons rfl .nil) (by kernel_rfl) rfl rfl rfl) ?_
  obtain ⟨x192, e192, h2⟩ := bnd_e h2
  obtain ⟨p193, h2⟩ := asrt_e h2
  refine rse rfl rfl rfl (yl_appT (g := GOp.av) (l := y1_4) (m := [(⟨x13, x178, x182, 0, 0, 0, x186, 0, []⟩ : GOp)]) .any rfl Try.underlying22 bz28 by28 rfl rfl rfl rfl rfl rfl rfl rfl rfl rfl (Eq.symm rfl) (CvLL.list (.cons (.cons (.refl _) (.cons (.refl _) (.cons (.refl _) (.cons (.refl _) (.cons (.refl _) (.cons (.refl _) (.cons (.refl _) (.cons (.refl _) (.cons (.nil _) .nil))))))))) .nil)) (fun _ => rfl) e192 p193) ?_; rintro _ _ ⟨v194, -, rfl, rfl⟩
  refine tr tbk 3 (.mk ?_)
  exact lfE h2 v194 leA
  replace h2 := ct h2
  refine tc tbk 6 (.mk ?_)
  obtain ⟨c195, hX, hj⟩ := esc_e h2; subst hj; replace h1 := hX.trans (sel_r h1)
  obtain ⟨c196, hX, hj⟩ := esc_e h1; subst hj; replace h0 := hX.trans (sel_r h0)
  obtain rfl := nxt_e h0
  refine wR hret (rT (rT .nil)) ?_
  exact CvL.tup (.cons (.nil _) (.cons (.refl _) .nil))
  replace h2 := ct h2
  refine w_rangeD [0, 0, 2, 7, 15] (fun i => bif Nat.beq i 1 then ([2]) else bif Nat.beq i 2 then ([2]) else []) (fun i => [2]) 4 [0, 1, 2, 3] mixed (by kernel_rfl) rfl rfl rfl rfl rfl rfl rfl rfl rfl rfl rfl rfl rfl Try.underlying9 ?_
  refine eP (fun H hH => yv_callP rfl rfl .nil cal20 (CvL.refl _) forms20_c) ?_
  refine eF fo28_0 ?_
  refine eL sh3 ?_
  refine de_as 23 (int 8) rfl (congrArg int (of_decide_eq_true e24)) ?_
  refine de_pure rfl rfl rfl rfl (fun H hH => yv_indexA rfl Try.underlying46 sh45 rfl rfl (by decide) rfl) ?_
  refine ⟨_, rfl, rfl, fun b197 => ?_⟩
  refine tc tbk 13 (.mk ?_)
  refine sY (yv_to (y := boo false) (yv_eql rfl rfl rfl) (congrArg boo (by decide))) ?_
  refine tr tbk 4 (.mk ?_)
  obtain ⟨j198, h3, h2⟩ := bind_e h2
  refine rse (Out := fun y H' => (∃ (a : Unit) (k : Unit), a = j198 ∧ y = .pt 2 v15 0 1 ∧ H' = hk [(1, ⟨87, 2, true, true, w0_1, [[str x14.1, boo x14.2]]⟩), (2, ⟨28, 9, true, true, v15, [[int x13, int 0, int 0, int 0, int 0, int 0, int 0, int 0, .sc (.slice none 0 0)]]⟩), (4, ⟨28, 9, true, true, w1_1, y1_4.map GOp.av⟩)])) rfl rfl rfl (yl_call rfl rfl (.cons rfl (.cons rfl .nil)) cal23 ?_) ?_
  refine pcw (c := _) Try.func23 rfl rfl ?_; intro Q hret hnorm
  refine tc tbk 12 (.mk ?_)
  refine sY (yv_to (y := boo true) (yv_eql rfl rfl rfl) (congrArg boo (by decide))) ?_
  refine tr tbk 10 (.mk ?_)
  obtain rfl := nxt_e h3
  refine w_ret (hret _ _ (hk [(1, ⟨87, 2, true, true, w0_1, [[str x14.1, boo x14.2]]⟩), (2, ⟨28, 9, true, true, v15, [[int x13, int 0, int 0, int 0, int 0, int 0, int 0, int 0, .sc (.slice none 0 0)]]⟩), (4, ⟨28, 9, true, true, w1_1, y1_4.map GOp.av⟩)]) (.tmp rfl .nil) (HK.le ⟨rfl, rfl, rfl, trivial⟩) ?_)
  exact ⟨(), (), rfl, rfl, rfl⟩
  rintro y _ ⟨_, _, rfl, hc, rfl⟩
  subst hc
  refine tr tbk 1 (.mk ?_)
  obtain ⟨p199, h2⟩ := asrt_e h2
  obtain ⟨x200, e200, h2⟩ := bnd_e h2
  obtain ⟨x201, e201, h2⟩ := bnd_e h2
  refine rse rfl rfl rfl (yl_call rfl rfl (.cons rfl .nil) cal31 (PC.mono (numP_c (s := x14) (id := 1) (ver := w0_1) rfl p199) (R' := fun y H' => y = int x200 ∧ H' = upd _ 1 (some (rdr 87 w0_1 x201))) (fun y H' h => ⟨h.1.trans (congrArg int e200), h.2.trans (rdr_cong e201)⟩))) ?_; rintro _ _ ⟨rfl, rfl⟩
  refine tr tbk 1 (.mk ?_)
  refine sS ⟨28, 9, true, true, v15, [[int x13, int x200, int 0, int 0, int 0, int 0, int 0, int 0, .sc (.slice none 0 0)]]⟩ sh3 ?_
  refine tr tbk 15 (.mk ?_)
  refine sY (yv_to (y := boo false) (yv_eql rfl rfl rfl) (congrArg boo (by decide))) ?_
  refine tr tbk 4 (.mk ?_)
  obtain ⟨j202, h3, h2⟩ := bind_e h2
  refine rse (Out := fun y H' => (∃ (a : Unit) (k : Unit), a = j202 ∧ y = .pt 2 v15 0 2 ∧ H' = hk [(1, ⟨87, 2, true, true, w0_1, [[str x201.1, boo x201.2]]⟩), (2, ⟨28, 9, true, true, v15, [[int x13, int x200, int 0, int 0, int 0, int 0, int 0, int 0, .sc (.slice none 0 0)]]⟩), (4, ⟨28, 9, true, true, w1_1, y1_4.map GOp.av⟩)])) rfl rfl rfl (yl_call rfl rfl (.cons rfl (.cons rfl .nil)) cal23 ?_) ?_
  refine pcw (c := _) Try.func23 rfl rfl ?_; intro Q hret hnorm
  refine tc tbk 12 (.mk ?_)
  refine sY (yv_to (y := boo false) (yv_eql rfl rfl rfl) (congrArg boo (by decide))) ?_
  refine tr tbk 5 (.mk ?_)
  refine sY (yv_to (y := boo true) (yv_eql rfl rfl rfl) (congrArg boo (by decide))) ?_
  refine tr tbk 10 (.mk ?_)
  obtain rfl := nxt_e h3
  refine w_ret (hret _ _ (hk [(1, ⟨87, 2, true, true, w0_1, [[str x201.1, boo x201.2]]⟩), (2, ⟨28, 9, true, true, v15, [[int x13, int x200, int 0, int 0, int 0, int 0, int 0, int 0, .sc (.slice none 0 0)]]⟩), (4, ⟨28, 9, true, true, w1_1, y1_4.map GOp.av⟩)]) (.tmp rfl .nil) (HK.le ⟨rfl, rfl, rfl, trivial⟩) ?_)
  exact ⟨(), (), rfl, rfl, rfl⟩
  rintro y _ ⟨_, _, rfl, hc, rfl⟩
  subst hc
  refine tr tbk 1 (.mk ?_)
  obtain ⟨p203, h2⟩ := asrt_e h2
  obtain ⟨x204, e204, h2⟩ := bnd_e h2
  obtain ⟨x205, e205, h2⟩ := bnd_e h2
  refine rse rfl rfl rfl (yl_call rfl rfl (.cons rfl .nil) cal31 (PC.mono (numP_c (s := x201) (id := 1) (ver := w0_1) rfl p203) (R' := fun y H' => y = int x204 ∧ H' = upd _ 1 (some (rdr 87 w0_1 x205))) (fun y H' h => ⟨h.1.trans (congrArg int e204), h.2.trans (rdr_cong e205)⟩))) ?_; rintro _ _ ⟨rfl, rfl⟩
  refine tr tbk 1 (.mk ?_)
  refine sS ⟨28, 9, true, true, v15, [[int x13, int x200, int x204, int 0, int 0, int 0, int 0, int 0, .sc (.slice none 0 0)]]⟩ sh3 ?_
  refine tr tbk 15 (.mk ?_)
  refine sY (yv_to (y := boo false) (yv_eql rfl rfl rfl) (congrArg boo (by decide))) ?_
  refine tr tbk 4 (.mk ?_)
  obtain ⟨j206, h3, h2⟩ := bind_e h2
  refine rse (Out := fun y H' => (∃ (a : Unit) (k : Unit), a = j206 ∧ y = .pt 2 v15 0 3 ∧ H' = hk [(1, ⟨87, 2, true, true, w0_1, [[str x205.1, boo x205.2]]⟩), (2, ⟨28, 9, true, true, v15, [[int x13, int x200, int x204, int 0, int 0, int 0, int 0, int 0, .sc (.slice none 0 0)]]⟩), (4, ⟨28, 9, true, true, w1_1, y1_4.map GOp.av⟩)])) rfl rfl rfl (yl_call rfl rfl (.cons rfl (.cons rfl .nil)) cal23 ?_) ?_
  refine pcw (c := _) Try.func23 rfl rfl ?_; intro Q hret hnorm
  refine tc tbk 12 (.mk ?_)
  refine sY (yv_to (y := boo false) (yv_eql rfl rfl rfl) (congrArg boo (by decide))) ?_
  refine tr tbk 5 (.mk ?_)
  refine sY (yv_to (y := boo false) (yv_eql rfl rfl rfl) (congrArg boo (by decide))) ?_
  refine tr tbk 5 (.mk ?_)
  refine sY (yv_to (y := boo true) (yv_eql rfl rfl rfl) (congrArg boo (by decide))) ?_
  refine tr tbk 10 (.mk ?_)
  obtain rfl := nxt_e h3
  refine w_ret (hret _ _ (hk [(1, ⟨87, 2, true, true, w0_1, [[str x205.1, boo x205.2]]⟩), (2, ⟨28, 9, true, true, v15, [[int x13, int x200, int x204, int 0, int 0, int 0, int 0, int 0, .sc (.slice none 0 0)]]⟩), (4, ⟨28, 9, true, true, w1_1, y1_4.map GOp.av⟩)]) (.tmp rfl .nil) (HK.le ⟨rfl, rfl, rfl, trivial⟩) ?_)
  exact ⟨(), (), rfl, rfl, rfl⟩
  rintro y _ ⟨_, _, rfl, hc, rfl⟩
  subst hc
  refine tr tbk 1 (.mk ?_)
  obtain ⟨p207, h2⟩ := asrt_e h2
  obtain ⟨x208, e208, h2⟩ := bnd_e h2
  obtain ⟨x209, e209, h2⟩ := bnd_e h2
  refine rse rfl rfl rfl (yl_call rfl rfl (.cons rfl .nil) cal31 (PC.mono (numP_c (s := x205) (id := 1) (ver := w0_1) rfl p207) (R' := fun y H' => y = int x208 ∧ H' = upd _ 1 (some (rdr 87 w0_1 x209))) (fun y H' h => ⟨h.1.trans (congrArg int e208), h.2.trans (rdr_cong e209)⟩))) ?_; rintro _ _ ⟨rfl, rfl⟩
  refine tr tbk 1 (.mk ?_)
  refine sS ⟨28, 9, true, true, v15, [[int x13, int x200, int x204, int x208, int 0, int 0, int 0, int 0, .sc (.slice none 0 0)]]⟩ sh3 ?_
  refine tr tbk 15 (.mk ?_)
  refine sY (yv_to (y := boo false) (yv_eql rfl rfl rfl) (congrArg boo (by decide))) ?_
  refine tr tbk 4 (.mk ?_)
  obtain ⟨j210, h3, h2⟩ := bind_e h2
  refine rse (Out := fun y H' => (∃ (a : Unit) (k : Unit), a = j210 ∧ y = .pt 2 v15 0 4 ∧ H' = hk [(1, ⟨87, 2, true, true, w0_1, [[str x209.1, boo x209.2]]⟩), (2, ⟨28, 9, true, true, v15, [[int x13, int x200, int x204, int x208, int 0, int 0, int 0, int 0, .sc (.slice none 0 0)]]⟩), (4, ⟨28, 9, true, true, w1_1, y1_4.map GOp.av⟩)])) rfl rfl rfl (yl_call rfl rfl (.cons rfl (.cons rfl .nil)) cal23 ?_) ?_
  refine pcw (c := _) Try.func23 rfl rfl ?_; intro Q hret hnorm
  refine tc tbk 12 (.mk ?_)
  refine sY (yv_to (y := boo false) (yv_eql rfl rfl rfl) (congrArg boo (by decide))) ?_
  refine tr tbk 5 (.mk ?_)
  refine sY (yv_to (y := boo false) (yv_eql rfl rfl rfl) (congrArg boo (by decide))) ?_
  refine tr tbk 5 (.mk ?_)
  refine sY (yv_to (y := boo false) (yv_eql rfl rfl rfl) (congrArg boo (by decide))) ?_
  refine tr tbk 5 (.mk ?_)
  refine sY (yv_to (y := boo true) (yv_eql rfl rfl rfl) (congrArg boo (by decide))) ?_
  refine tr tbk 10 (.mk ?_)
  obtain rfl := nxt_e h3
  refine w_ret (hret _ _ (hk [(1, ⟨87, 2, true, true, w0_1, [[str x209.1, boo x209.2]]⟩), (2, ⟨28, 9, true, true, v15, [[int x13, int x200, int x204, int x208, int 0, int 0, int 0, int 0, .sc (.slice none 0 0)]]⟩), (4, ⟨28, 9, true, true, w1_1, y1_4.map GOp.av⟩)]) (.tmp rfl .nil) (HK.le ⟨rfl, rfl, rfl, trivial⟩) ?_)
  exact ⟨(), (), rfl, rfl, rfl⟩
  rintro y _ ⟨_, _, rfl, hc, rfl⟩
  subst hc
  refine tr tbk 1 (.mk ?_)
  obtain ⟨p211, h2⟩ := asrt_e h2
  obtain ⟨x212, e212, h2⟩ := bnd_e h2
  obtain ⟨x213, e213, h2⟩ := bnd_e h2
  refine rse rfl rfl rfl (yl_call rfl rfl (.cons rfl .nil) cal31 (PC.mono (numP_c (s := x209) (id := 1) (ver := w0_1) rfl p211) (R' := fun y H' => y = int x212 ∧ H' = upd _ 1 (some (rdr 87 w0_1 x213))) (fun y H' h => ⟨h.1.trans (congrArg int e212), h.2.trans (rdr_cong e213)⟩))) ?_; rintro _ _ ⟨rfl, rfl⟩
  refine tr tbk 1 (.mk ?_)
  refine sS ⟨28, 9, true, true, v15, [[int x13, int x200, int x204, int x208, int x212, int 0, int 0, int 0, .sc (.slice none 0 0)]]⟩ sh3 ?_
  refine tr tbk 15 (.mk ?_)
  refine sY (yv_to (y := boo false) (yv_eql rfl rfl rfl) (congrArg boo (by decide))) ?_
  refine tr tbk 4 (.mk ?_)
  obtain ⟨j214, h3, h2⟩ := bind_e h2
  refine rse (Out := fun y H' => (∃ (a : Unit) (k : Unit), a = j214 ∧ y = .pt 2 v15 0 5 ∧ H' = hk [(1, ⟨87, 2, true, true, w0_1, [[str x213.1, boo x213.2]]⟩), (2, ⟨28, 9, true, true, v15, [[int x13, int x200, int x204, int x208, int x212, int 0, int 0, int 0, .sc (.slice none 0 0)]]⟩), (4, ⟨28, 9, true, true, w1_1, y1_4.map GOp.av⟩)])) rfl rfl rfl (yl_call rfl rfl (.cons rfl (.cons rfl .nil)) cal23 ?_) ?_
  refine pcw (c := _) Try.func23 rfl rfl ?_; intro Q hret hnorm
  refine tc tbk 12 (.mk ?_)
  refine sY (yv_to (y := boo false) (yv_eql rfl rfl rfl) (congrArg boo (by decide))) ?_
  refine tr tbk 5 (.mk ?_)
  refine sY (yv_to (y := boo false) (yv_eql rfl rfl rfl) (congrArg boo (by decide))) ?_
  refine tr tbk 5 (.mk ?_)
  refine sY (yv_to (y := boo false) (yv_eql rfl rfl rfl) (congrArg boo (by decide))) ?_
  refine tr tbk 5 (.mk ?_)
  refine sY (yv_to (y := boo false) (yv_eql rfl rfl rfl) (congrArg boo (by decide))) ?_
  refine tr tbk 5 (.mk ?_)
  refine sY (yv_to (y := boo true) (yv_eql rfl rfl rfl) (congrArg boo (by decide))) ?_
  refine tr tbk 10 (.mk ?_)
  obtain rfl := nxt_e h3
  refine w_ret (hret _ _ (hk [(1, ⟨87, 2, true, true, w0_1, [[str x213.1, boo x213.2]]⟩), (2, ⟨28, 9, true, true, v15, [[int x13, int x200, int x204, int x208, int x212, int 0, int 0, int 0, .sc (.slice none 0 0)]]⟩), (4, ⟨28, 9, true, true, w1_1, y1_4.map GOp.av⟩)]) (.tmp rfl .nil) (HK.le ⟨rfl, rfl, rfl, trivial⟩) ?_)
  exact ⟨(), (), rfl, rfl, rfl⟩
  rintro y _ ⟨_, _, rfl, hc, rfl⟩
  subst hc
  refine tr tbk 1 (.mk ?_)
  obtain ⟨p215, h2⟩ := asrt_e h2
  obtain ⟨x216, e216, h2⟩ := bnd_e h2
  obtain ⟨x217, e217, h2⟩ := bnd_e h2
  refine rse rfl rfl rfl (yl_call rfl rfl (.cons rfl .nil) cal31 (PC.mono (numP_c (s := x213) (id := 1) (ver := w0_1) rfl p215) (R' := fun y H' => y = int x216 ∧ H' = upd _ 1 (some (rdr 87 w0_1 x217))) (fun y H' h => ⟨h.1.trans (congrArg int e216), h.2.trans (rdr_cong e217)⟩))) ?_; rintro _ _ ⟨rfl, rfl⟩
  refine tr tbk 1 (.mk ?_)
  refine sS ⟨28, 9, true, true, v15, [[int x13, int x200, int x204, int x208, int x212, int x216, int 0, int 0, .sc (.slice none 0 0)]]⟩ sh3 ?_
  refine tr tbk 8 (.mk ?_)
  refine jn h2 [2, 3, 4, 5, 6, 15, 16] [1, 2, 4] (fun (a : Bool) (k : Unit) => [(45, boo a)]) (fun a k => []) ⟨fun j218 h3 => ?_, ?_⟩
  refine tc tbk 2 (.mk ?_)
  refine sY (yv_callR rfl rfl (.cons rfl .nil) cal32 (badP_c (s := x217) (id := 1) (ver := w0_1) rfl) (.sc _)) ?_
  refine tr tbk 1 (.mk ?_)
  obtain ⟨x219, e219, h3⟩ := bnd_e h3
  refine rsas 40 (boo x219) rfl (congrArg boo e219) ?_
  refine rsas 41 (boo x219) rfl (congrArg boo e219) ?_
  cases x219
  replace h3 := cf h3
  refine tr tbk 1 (.mk ?_)
  obtain ⟨x220, e220, h3⟩ := bind_e h3
  refine sY (yv_callP rfl rfl (.cons rfl .nil) cal8 (.cons (CvL.agg (.cons (.refl _) (.cons (.refl _) (.cons (.refl _) (.cons (.refl _) (.cons (.refl _) (.cons (.refl _) (.cons (.refl _) (.cons (.refl _) (.cons (.nil _) .nil)))))))))) .nil) (d_ops_Check_c e220)) ?_
  refine nb tbk h3 fun x221 h3 => ?_
  refine tr tbk 2 (.mk ?_)
  exact lf h3 () leA
  replace h3 := ct h3
  refine tr tbk 5 (.mk ?_)
  exact lf h3 () leA
  rintro y3_1 _ h2
  cases y3_1
  replace h2 := cf h2
  refine tc tbk 5 (.mk ?_)
  refine sY (yv_buildSlice (ps := [(0, _)]) (rows := [[int x13, int x200, int x204, int x208, int x212, int x216, int 0, int 0, .sc (.slice none 0 0)]]) rfl Try.underlying22 bz28 (.cons rfl .nil) (by kernel_rfl) rfl rfl rfl) ?_
  obtain ⟨x222, e222, h2⟩ := bnd_e h2
  obtain ⟨p223, h2⟩ := asrt_e h2
  refine rse rfl rfl rfl (yl_appT (g := GOp.av) (l := y1_4) (m := [(⟨x13, x200, x204, x208, x212, x216, 0, 0, []⟩ : GOp)]) .any rfl Try.underlying22 bz28 by28 rfl rfl rfl rfl rfl rfl rfl rfl rfl rfl (Eq.symm rfl) (CvLL.list (.cons (.cons (.refl _) (.cons (.refl _) (.cons (.refl _) (.cons (.refl _) (.cons (.refl _) (.cons (.refl _) (.cons (.refl _) (.cons (.refl _) (.cons (.nil _) .nil))))))))) .nil)) (fun _ => rfl) e222 p223) ?_; rintro _ _ ⟨v224, -, rfl, rfl⟩
  refine tr tbk 3 (.mk ?_)
  exact lfE h2 v224 leA
  replace h2 := ct h2
  refine tc tbk 6 (.mk ?_)
  obtain ⟨c225, hX, hj⟩ := esc_e h2; subst hj; replace h1 := hX.trans (sel_r h1)
  obtain ⟨c226, hX, hj⟩ := esc_e h1; subst hj; replace h0 := hX.trans (sel_r h0)
  obtain rfl := nxt_e h0
  refine wR hret (rT (rT .nil)) ?_
  exact CvL.tup (.cons (.nil _) (.cons (.refl _) .nil))
  replace h2 := ct h2
  refine w_rangeD [0, 0, 2, 7, 15] (fun i => bif Nat.beq i 1 then ([2]) else bif Nat.beq i 2 then ([2]) else []) (fun i => [2]) 4 [0, 1, 2, 3] mixed (by kernel_rfl) rfl rfl rfl rfl rfl rfl rfl rfl rfl rfl rfl rfl rfl Try.underlying9 ?_
  refine eP (fun H hH => yv_callP rfl rfl .nil cal20 (CvL.refl _) forms20_c) ?_
  refine eF fo28_0 ?_
  refine eL sh3 ?_
  refine de_as 23 (int 7) rfl (congrArg int (of_decide_eq_true e23)) ?_
  refine de_pure rfl rfl rfl rfl (fun H hH => yv_indexA rfl Try.underlying46 sh45 rfl rfl (by decide) rfl) ?_
  refine ⟨_, rfl, rfl, fun b227 => ?_⟩
  refine tc tbk 13 (.mk ?_)
  refine sY (yv_to (y := boo false) (yv_eql rfl rfl rfl) (congrArg boo (by decide))) ?_
  refine tr tbk 4 (.mk ?_)
  obtain ⟨j228, h3, h2⟩ := bind_e h2
  refine rse (Out := fun y H' => (∃ (a : Unit) (k : Unit), a = j228 ∧ y = .pt 2 v15 0 1 ∧ H' = hk [(1, ⟨87, 2, true, true, w0_1, [[str x14.1, boo x14.2]]⟩), (2, ⟨28, 9, true, true, v15, [[int x13, int 0, int 0, int 0, int 0, int 0, int 0, int 0, .sc (.slice none 0 0)]]⟩), (4, ⟨28, 9, true, true, w1_1, y1_4.map GOp.av⟩)])) rfl rfl rfl (yl_call rfl rfl (.cons rfl (.cons rfl .nil)) cal23 ?_) ?_
  refine pcw (c := _) Try.func23 rfl rfl ?_; intro Q hret hnorm
  refine tc tbk 12 (.mk ?_)
  refine sY (yv_to (y := boo true) (yv_eql rfl rfl rfl) (congrArg boo (by decide))) ?_
  refine tr tbk 10 (.mk ?_)
  obtain rfl := nxt_e h3
  refine w_ret (hret _ _ (hk [(1, ⟨87, 2, true, true, w0_1, [[str x14.1, boo x14.2]]⟩), (2, ⟨28, 9, true, true, v15, [[int x13, int 0, int 0, int 0, int 0, int 0, int 0, int 0, .sc (.slice none 0 0)]]⟩), (4, ⟨28, 9, true, true, w1_1, y1_4.map GOp.av⟩)]) (.tmp rfl .nil) (HK.le ⟨rfl, rfl, rfl, trivial⟩) ?_)
  exact ⟨(), (), rfl, rfl, rfl⟩
  rintro y _ ⟨_, _, rfl, hc, rfl⟩
  subst hc
  refine tr tbk 1 (.mk ?_)
  obtain ⟨p229, h2⟩ := asrt_e h2
  obtain ⟨x230, e230, h2⟩ := bnd_e h2
  obtain ⟨x231, e231, h2⟩ := bnd_e h2
  refine rse rfl rfl rfl (yl_call rfl rfl (.cons rfl .nil) cal31 (PC.mono (numP_c (s := x14) (id := 1) (ver := w0_1) rfl p229) (R' := fun y H' => y = int x230 ∧ H' = upd _ 1 (some (rdr 87 w0_1 x231))) (fun y H' h => ⟨h.1.trans (congrArg int e230), h.2.trans (rdr_cong e231)⟩))) ?_; rintro _ _ ⟨rfl, rfl⟩
  refine tr tbk 1 (.mk ?_)
  refine sS ⟨28, 9, true, true, v15, [[int x13, int x230, int 0, int 0, int 0, int 0, int 0, int 0, .sc (.slice none 0 0)]]⟩ sh3 ?_
  refine tr tbk 15 (.mk ?_)
  refine sY (yv_to (y := boo false) (yv_eql rfl rfl rfl) (congrArg boo (by decide))) ?_
  refine tr tbk 4 (.mk ?_)
  obtain ⟨j232, h3, h2⟩ := bind_e h2
  refine rse (Out := fun y H' => (∃ (a : Unit) (k : Unit), a = j232 ∧ y = .pt 2 v15 0 2 ∧ H' = hk [(1, ⟨87, 2, true, true, w0_1, [[str x231.1, boo x231.2]]⟩), (2, ⟨28, 9, true, true, v15, [[int x13, int x230, int 0, int 0, int 0, int 0, int 0, int 0, .sc (.slice none 0 0)]]⟩), (4, ⟨28, 9, true, true, w1_1, y1_4.map GOp.av⟩)])) rfl rfl rfl (yl_call rfl rfl (.cons rfl (.cons rfl .nil)) cal23 ?_) ?_
  refine pcw (c := _) Try.func23 rfl rfl ?_; intro Q hret hnorm
  refine tc tbk 12 (.mk ?_)
  refine sY (yv_to (y := boo false) (yv_eql rfl rfl rfl) (congrArg boo (by decide))) ?_
  refine tr tbk 5 (.mk ?_)
  refine sY (yv_to (y := boo true) (yv_eql rfl rfl rfl) (congrArg boo (by decide))) ?_
  refine tr tbk 10 (.mk ?_)
  obtain rfl := nxt_e h3
  refine w_ret (hret _ _ (hk [(1, ⟨87, 2, true, true, w0_1, [[str x231.1, boo x231.2]]⟩), (2, ⟨28, 9, true, true, v15, [[int x13, int x230, int 0, int 0, int 0, int 0, int 0, int 0, .sc (.slice none 0 0)]]⟩), (4, ⟨28, 9, true, true, w1_1, y1_4.map GOp.av⟩)]) (.tmp rfl .nil) (HK.le ⟨rfl, rfl, rfl, trivial⟩) ?_)
  exact ⟨(), (), rfl, rfl, rfl⟩
  rintro y _ ⟨_, _, rfl, hc, rfl⟩
  subst hc
  refine tr tbk 1 (.mk ?_)
  obtain ⟨p233, h2⟩ := asrt_e h2
  obtain ⟨x234, e234, h2⟩ := bnd_e h2
  obtain ⟨x235, e235, h2⟩ := bnd_e h2
  refine rse rfl rfl rfl (yl_call rfl rfl (.cons rfl .nil) cal31 (PC.mono (numP_c (s := x231) (id := 1) (ver := w0_1) rfl p233) (R' := fun y H' => y = int x234 ∧ H' = upd _ 1 (some (rdr 87 w0_1 x235))) (fun y H' h => ⟨h.1.trans (congrArg int e234), h.2.trans (rdr_cong e235)⟩))) ?_; rintro _ _ ⟨rfl, rfl⟩
  refine tr tbk 1 (.mk ?_)
  refine sS ⟨28, 9, true, true, v15, [[int x13, int x230, int x234, int 0, int 0, int 0, int 0, int 0, .sc (.slice none 0 0)]]⟩ sh3 ?_
  refine tr tbk 15 (.mk ?_)
  refine sY (yv_to (y := boo false) (yv_eql rfl rfl rfl) (congrArg boo (by decide))) ?_
  refine tr tbk 4 (.mk ?_)
  obtain ⟨j236, h3, h2⟩ := bind_e h2
  refine rse (Out := fun y H' => (∃ (a : Unit) (k : Unit), a = j236 ∧ y = .pt 2 v15 0 3 ∧ H' = hk [(1, ⟨87, 2, true, true, w0_1, [[str x235.1, boo x235.2]]⟩), (2, ⟨28, 9, true, true, v15, [[int x13, int x230, int x234, int 0, int 0, int 0, int 0, int 0, .sc (.slice none 0 0)]]⟩), (4, ⟨28, 9, true, true, w1_1, y1_4.map GOp.av⟩)])) rfl rfl rfl (yl_call rfl rfl (.cons rfl (.cons rfl .nil)) cal23 ?_) ?_
  refine pcw (c := _) Try.func23 rfl rfl ?_; intro Q hret hnorm
  refine tc tbk 12 (.mk ?_)
  refine sY (yv_to (y := boo false) (yv_eql rfl rfl rfl) (congrArg boo (by decide))) ?_
  refine tr tbk 5 (.mk ?_)
  refine sY (yv_to (y := boo false) (yv_eql rfl rfl rfl) (congrArg boo (by decide))) ?_
  refine tr tbk 5 (.mk ?_)
  refine sY (yv_to (y := boo true) (yv_eql rfl rfl rfl) (congrArg boo (by decide))) ?_
  refine tr tbk 10 (.mk ?_)
  obtain rfl := nxt_e h3
  refine w_ret (hret _ _ (hk [(1, ⟨87, 2, true, true, w0_1, [[str x235.1, boo x235.2]]⟩), (2, ⟨28, 9, true, true, v15, [[int x13, int x230, int x234, int 0, int 0, int 0, int 0, int 0, .sc (.slice none 0 0)]]⟩), (4, ⟨28, 9, true, true, w1_1, y1_4.map GOp.av⟩)]) (.tmp rfl .nil) (HK.le ⟨rfl, rfl, rfl, trivial⟩) ?_)
  exact ⟨(), (), rfl, rfl, rfl⟩
  rintro y _ ⟨_, _, rfl, hc, rfl⟩
  subst hc
  refine tr tbk 1 (.mk ?_)
  obtain ⟨p237, h2⟩ := asrt_e h2
  obtain ⟨x238, e238, h2⟩ := bnd_e h2
  obtain ⟨x239, e239, h2⟩ := bnd_e h2
  refine rse rfl rfl rfl (yl_call rfl rfl (.cons rfl .nil) cal31 (PC.mono (numP_c (s := x235) (id := 1) (ver := w0_1) rfl p237) (R' := fun y H' => y = int x238 ∧ H' = upd _ 1 (some (rdr 87 w0_1 x239))) (fun y H' h => ⟨h.1.trans (congrArg int e238), h.2.trans (rdr_cong e239)⟩))) ?_; rintro _ _ ⟨rfl, rfl⟩
  refine tr tbk 1 (.mk ?_)
  refine sS ⟨28, 9, true, true, v15, [[int x13, int x230, int x234, int x238, int 0, int 0, int 0, int 0, .sc (.slice none 0 0)]]⟩ sh3 ?_
  refine tr tbk 15 (.mk ?_)
  refine sY (yv_to (y := boo false) (yv_eql rfl rfl rfl) (congrArg boo (by decide))) ?_
  refine tr tbk 4 (.mk ?_)
  obtain ⟨j240, h3, h2⟩ := bind_e h2
  refine rse (Out := fun y H' => (∃ (a : Unit) (k : Unit), a = j240 ∧ y = .pt 2 v15 0 5 ∧ H' = hk [(1, ⟨87, 2, true, true, w0_1, [[str x239.1, boo x239.2]]⟩), (2, ⟨28, 9, true, true, v15, [[int x13, int x230, int x234, int x238, int 0, int 0, int 0, int 0, .sc (.slice none 0 0)]]⟩), (4, ⟨28, 9, true, true, w1_1, y1_4.map GOp.av⟩)])) rfl rfl rfl (yl_call rfl rfl (.cons rfl (.cons rfl .nil)) cal23 ?_) ?_
  refine pcw (c := _) Try.func23 rfl rfl ?_; intro Q hret hnorm
  refine tc tbk 12 (.mk ?_)
  refine sY (yv_to (y := boo false) (yv_eql rfl rfl rfl) (congrArg boo (by decide))) ?_
  refine tr tbk 5 (.mk ?_)
  refine sY (yv_to (y := boo false) (yv_eql rfl rfl rfl) (congrArg boo (by decide))) ?_
  refine tr tbk 5 (.mk ?_)
  refine sY (yv_to (y := boo false) (yv_eql rfl rfl rfl) (congrArg boo (by decide))) ?_
  refine tr tbk 5 (.mk ?_)
  refine sY (yv_to (y := boo false) (yv_eql rfl rfl rfl) (congrArg boo (by decide))) ?_
  refine tr tbk 5 (.mk ?_)
  refine sY (yv_to (y := boo true) (yv_eql rfl rfl rfl) (congrArg boo (by decide))) ?_
  refine tr tbk 10 (.mk ?_)
  obtain rfl := nxt_e h3
  refine w_ret (hret _ _ (hk [(1, ⟨87, 2, true, true, w0_1, [[str x239.1, boo x239.2]]⟩), (2, ⟨28, 9, true, true, v15, [[int x13, int x230, int x234, int x238, int 0, int 0, int 0, int 0, .sc (.slice none 0 0)]]⟩), (4, ⟨28, 9, true, true, w1_1, y1_4.map GOp.av⟩)]) (.tmp rfl .nil) (HK.le ⟨rfl, rfl, rfl, trivial⟩) ?_)
  exact ⟨(), (), rfl, rfl, rfl⟩
  rintro y _ ⟨_, _, rfl, hc, rfl⟩
  subst hc
  refine tr tbk 1 (.mk ?_)
  obtain ⟨p241, h2⟩ := asrt_e h2
  obtain ⟨x242, e242, h2⟩ := bnd_e h2
  obtain ⟨x243, e243, h2⟩ := bnd_e h2
  refine rse rfl rfl rfl (yl_call rfl rfl (.cons rfl .nil) cal31 (PC.mono (numP_c (s := x239) (id := 1) (ver := w0_1) rfl p241) (R' := fun y H' => y = int x242 ∧ H' = upd _ 1 (some (rdr 87 w0_1 x243))) (fun y H' h => ⟨h.1.trans (congrArg int e242), h.2.trans (rdr_cong e243)⟩))) ?_; rintro _ _ ⟨rfl, rfl⟩
  refine tr tbk 1 (.mk ?_)
  refine sS ⟨28, 9, true, true, v15, [[int x13, int x230, int x234, int x238, int 0, int x242, int 0, int 0, .sc (.slice none 0 0)]]⟩ sh3 ?_
  refine tr tbk 8 (.mk ?_)
  refine jn h2 [2, 3, 4, 5, 6, 15, 16] [1, 2, 4] (fun (a : Bool) (k : Unit) => [(45, boo a)]) (fun a k => []) ⟨fun j244 h3 => ?_, ?_⟩
  refine tc tbk 2 (.mk ?_)
  refine sY (yv_callR rfl rfl (.cons rfl .nil) cal32 (badP_c (s := x243) (id := 1) (ver := w0_1) rfl) (.sc _)) ?_
  refine tr tbk 1 (.mk ?_)
  obtain ⟨x245, e245, h3⟩ := bnd_e h3
  refine rsas 40 (boo x245) rfl (congrArg boo e245) ?_
  refine rsas 41 (boo x245) rfl (congrArg boo e245) ?_
  cases x245
  replace h3 := cf h3
  refine tr tbk 1 (.mk ?_)
  obtain ⟨x246, e246, h3⟩ := bind_e h3
  refine sY (yv_callP rfl rfl (.cons rfl .nil) cal8 (.cons (CvL.agg (.cons (.refl _) (.cons (.refl _) (.cons (.refl _) (.cons (.refl _) (.cons (.refl _) (.cons (.refl _) (.cons (.refl _) (.cons (.refl _) (.cons (.nil _) .nil)))))))))) .nil) (d_ops_Check_c e246)) ?_
  refine nb tbk h3 fun x247 h3 => ?_
  refine tr tbk 2 (.mk ?_)
  exact lf h3 () leA
  replace h3 := ct h3
  refine tr tbk 5 (.mk ?_)
  exact lf h3 () leA
  rintro y3_1 _ h2
  cases y3_1
  replace h2 := cf h2
  refine tc tbk 5 (.mk ?_)
  refine sY (yv_buildSlice (ps := [(0, _)]) (rows := [[int x13, int x230, int x234, int x238, int 0, int x242, int 0, int 0, .sc (.slice none 0 0)]]) rfl Try.underlying22 bz28 (.cons rfl .nil) (by kernel_rfl) rfl rfl rfl) ?_
  obtain ⟨x248, e248, h2⟩ := bnd_e h2
  obtain ⟨p249, h2⟩ := asrt_e h2
  refine rse rfl rfl rfl (yl_appT (g := GOp.av) (l := y1_4) (m := [(⟨x13, x230, x234, x238, 0, x242, 0, 0, []⟩ : GOp)]) .any rfl Try.underlying22 bz28 by28 rfl rfl rfl rfl rfl rfl rfl rfl rfl rfl (Eq.symm rfl) (CvLL.list (.cons (.cons (.refl _) (.cons (.refl _) (.cons (.refl _) (.cons (.refl _) (.cons (.refl _) (.cons (.refl _) (.cons (.refl _) (.cons (.refl _) (.cons (.nil _) .nil))))))))) .nil)) (fun _ => rfl) e248 p249) ?_; rintro _ _ ⟨v250, -, rfl, rfl⟩
  refine tr tbk 3 (.mk ?_)
  exact lfE h2 v250 leA
  replace h2 := ct h2
  refine tc tbk 6 (.mk ?_)
  obtain ⟨c251, hX, hj⟩ := esc_e h2; subst hj; replace h1 := hX.trans (sel_r h1)
  obtain ⟨c252, hX, hj⟩ := esc_e h1; subst hj; replace h0 := hX.trans (sel_r h0)
  obtain rfl := nxt_e h0
  refine wR hret (rT (rT .nil)) ?_
  exact CvL.tup (.cons (.nil _) (.cons (.refl _) .nil))
  replace h2 := ct h2
  refine w_rangeD [0, 0, 2, 7, 15] (fun i => bif Nat.beq i 1 then ([2]) else bif Nat.beq i 2 then ([2]) else []) (fun i => [2]) 4 [0, 1, 2, 3] mixed (by kernel_rfl) rfl rfl rfl rfl rfl rfl rfl rfl rfl rfl rfl rfl rfl Try.underlying9 ?_
  refine eP (fun H hH => yv_callP rfl rfl .nil cal20 (CvL.refl _) forms20_c) ?_
  refine eF fo28_0 ?_
  refine eL sh3 ?_
  refine de_as 23 (int 6) rfl (congrArg int (of_decide_eq_true e22)) ?_
  refine de_pure rfl rfl rfl rfl (fun H hH => yv_indexA rfl Try.underlying46 sh45 rfl rfl (by decide) rfl) ?_
  refine ⟨_, rfl, rfl, fun b253 => ?_⟩
  refine tc tbk 13 (.mk ?_)
  refine sY (yv_to (y := boo false) (yv_eql rfl rfl rfl) (congrArg boo (by decide))) ?_
  refine tr tbk 4 (.mk ?_)
  obtain ⟨j254, h3, h2⟩ := bind_e h2
  refine rse (Out := fun y H' => (∃ (a : Unit) (k : Unit), a = j254 ∧ y = .pt 2 v15 0 1 ∧ H' = hk [(1, ⟨87, 2, true, true, w0_1, [[str x14.1, boo x14.2]]⟩), (2, ⟨28, 9, true, true, v15, [[int x13, int 0, int 0, int 0, int 0, int 0, int 0, int 0, .sc (.slice none 0 0)]]⟩), (4, ⟨28, 9, true, true, w1_1, y1_4.map GOp.av⟩)])) rfl rfl rfl (yl_call rfl rfl (.cons rfl (.cons rfl .nil)) cal23 ?_) ?_
  refine pcw (c := _) Try.func23 rfl rfl ?_; intro Q hret hnorm
  refine tc tbk 12 (.mk ?_)
  refine sY (yv_to (y := boo true) (yv_eql rfl rfl rfl) (congrArg boo (by decide))) ?_
  refine tr tbk 10 (.mk ?_)
  obtain rfl := nxt_e h3
  refine w_ret (hret _ _ (hk [(1, ⟨87, 2, true, true, w0_1, [[str x14.1, boo x14.2]]⟩), (2, ⟨28, 9, true, true, v15, [[int x13, int 0, int 0, int 0, int 0, int 0, int 0, int 0, .sc (.slice none 0 0)]]⟩), (4, ⟨28, 9, true, true, w1_1, y1_4.map GOp.av⟩)]) (.tmp rfl .nil) (HK.le ⟨rfl, rfl, rfl, trivial⟩) ?_)
  exact ⟨(), (), rfl, rfl, rfl⟩
  rintro y _ ⟨_, _, rfl, hc, rfl⟩
  subst hc
  refine tr tbk 1 (.mk ?_)
  obtain ⟨p255, h2⟩ := asrt_e h2
  obtain ⟨x256, e256, h2⟩ := bnd_e h2
  obtain ⟨x257, e257, h2⟩ := bnd_e h2
  refine rse rfl rfl rfl (yl_call rfl rfl (.cons rfl .nil) cal31 (PC.mono (numP_c (s := x14) (id := 1) (ver := w0_1) rfl p255) (R' := fun y H' => y = int x256 ∧ H' = upd _ 1 (some (rdr 87 w0_1 x257))) (fun y H' h => ⟨h.1.trans (congrArg int e256), h.2.trans (rdr_cong e257)⟩))) ?_; rintro _ _ ⟨rfl, rfl⟩
  refine tr tbk 1 (.mk ?_)
  refine sS ⟨28, 9, true, true, v15, [[int x13, int x256, int 0, int 0, int 0, int 0, int 0, int 0, .sc (.slice none 0 0)]]⟩ sh3 ?_
  refine tr tbk 15 (.mk ?_)
  refine sY (yv_to (y := boo false) (yv_eql rfl rfl rfl) (congrArg boo (by decide))) ?_
  refine tr tbk 4 (.mk ?_)
  obtain ⟨j258, h3, h2⟩ := bind_e h2
  refine rse (Out := fun y H' => (∃ (a : Unit) (k : Unit), a = j258 ∧ y = .pt 2 v15 0 2 ∧ H' = hk [(1, ⟨87, 2, true, true, w0_1, [[str x257.1, boo x257.2]]⟩), (2, ⟨28, 9, true, true, v15, [[int x13, int x256, int 0, int 0, int 0, int 0, int 0, int 0, .sc (.slice none 0 0)]]⟩), (4, ⟨28, 9, true, true, w1_1, y1_4.map GOp.av⟩)])) rfl rfl rfl (yl_call rfl rfl (.cons rfl (.cons rfl .nil)) cal23 ?_) ?_
  refine pcw (c := _) Try.func23 rfl rfl ?_; intro Q hret hnorm
  refine tc tbk 12 (.mk ?_)
  refine sY (yv_to (y := boo false) (yv_eql rfl rfl rfl) (congrArg boo (by decide))) ?_
  refine tr tbk 5 (.mk ?_)
  refine sY (yv_to (y := boo true) (yv_eql rfl rfl rfl) (congrArg boo (by decide))) ?_
  refine tr tbk 10 (.mk ?_)
  obtain rfl := nxt_e h3
  refine w_ret (hret _ _ (hk [(1, ⟨87, 2, true, true, w0_1, [[str x257.1, boo x257.2]]⟩), (2, ⟨28, 9, true, true, v15, [[int x13, int x256, int 0, int 0, int 0, int 0, int 0, int 0, .sc (.slice none 0 0)]]⟩), (4, ⟨28, 9, true, true, w1_1, y1_4.map GOp.av⟩)]) (.tmp rfl .nil) (HK.le ⟨rfl, rfl, rfl, trivial⟩) ?_)
  exact ⟨(), (), rfl, rfl, rfl⟩
  rintro y _ ⟨_, _, rfl, hc, rfl⟩
  subst hc
  refine tr tbk 1 (.mk ?_)
  obtain ⟨p259, h2⟩ := asrt_e h2
  obtain ⟨x260, e260, h2⟩ := bnd_e h2
  obtain ⟨x261, e261, h2⟩ := bnd_e h2
  refine rse rfl rfl rfl (yl_call rfl rfl (.cons rfl .nil) cal31 (PC.mono (numP_c (s := x257) (id := 1) (ver := w0_1) rfl p259) (R' := fun y H' => y = int x260 ∧ H' = upd _ 1 (some (rdr 87 w0_1 x261))) (fun y H' h => ⟨h.1.trans (congrArg int e260), h.2.trans (rdr_cong e261)⟩))) ?_; rintro _ _ ⟨rfl, rfl⟩
  refine tr tbk 1 (.mk ?_)
  refine sS ⟨28, 9, true, true, v15, [[int x13, int x256, int x260, int 0, int 0, int 0, int 0, int 0, .sc (.slice none 0 0)]]⟩ sh3 ?_
  refine tr tbk 15 (.mk ?_)
  refine sY (yv_to (y := boo false) (yv_eql rfl rfl rfl) (congrArg boo (by decide))) ?_
  refine tr tbk 4 (.mk ?_)
  obtain ⟨j262, h3, h2⟩ := bind_e h2
  refine rse (Out := fun y H' => (∃ (a : Unit) (k : Unit), a = j262 ∧ y = .pt 2 v15 0 3 ∧ H' = hk [(1, ⟨87, 2, true, true, w0_1, [[str x261.1, boo x261.2]]⟩), (2, ⟨28, 9, true, true, v15, [[int x13, int x256, int x260, int 0, int 0, int 0, int 0, int 0, .sc (.slice none 0 0)]]⟩), (4, ⟨28, 9, true, true, w1_1, y1_4.map GOp.av⟩)])) rfl rfl rfl (yl_call rfl rfl (.cons rfl (.cons rfl .nil)) cal23 ?_) ?_
  refine pcw (c := _) Try.func23 rfl rfl ?_; intro Q hret hnorm
  refine tc tbk 12 (.mk ?_)
  refine sY (yv_to (y := boo false) (yv_eql rfl rfl rfl) (congrArg boo (by decide))) ?_
  refine tr tbk 5 (.mk ?_)
  refine sY (yv_to (y := boo false) (yv_eql rfl rfl rfl) (congrArg boo (by decide))) ?_
  refine tr tbk 5 (.mk ?_)
  refine sY (yv_to (y := boo true) (yv_eql rfl rfl rfl) (congrArg boo (by decide))) ?_
  refine tr tbk 10 (.mk ?_)
  obtain rfl := nxt_e h3
  refine w_ret (hret _ _ (hk [(1, ⟨87, 2, true, true, w0_1, [[str x261.1, boo x261.2]]⟩), (2, ⟨28, 9, true, true, v15, [[int x13, int x256, int x260, int 0, int 0, int 0, int 0, int 0, .sc (.slice none 0 0)]]⟩), (4, ⟨28, 9, true, true, w1_1, y1_4.map GOp.av⟩)]) (.tmp rfl .nil) (HK.le ⟨rfl, rfl, rfl, trivial⟩) ?_)
  exact ⟨(), (), rfl, rfl, rfl⟩
  rintro y _ ⟨_, _, rfl, hc, rfl⟩
  subst hc
  refine tr tbk 1 (.mk ?_)
  obtain ⟨p263, h2⟩ := asrt_e h2
  obtain ⟨x264, e264, h2⟩ := bnd_e h2
  obtain ⟨x265, e265, h2⟩ := bnd_e h2
  refine rse rfl rfl rfl (yl_call rfl rfl (.cons rfl .nil) cal31 (PC.mono (numP_c (s := x261) (id := 1) (ver := w0_1) rfl p263) (R' := fun y H' => y = int x264 ∧ H' = upd _ 1 (some (rdr 87 w0_1 x265))) (fun y H' h => ⟨h.1.trans (congrArg int e264), h.2.trans (rdr_cong e265)⟩))) ?_; rintro _ _ ⟨rfl, rfl⟩
  refine tr tbk 1 (.mk ?_)
  refine sS ⟨28, 9, true, true, v15, [[int x13, int x256, int x260, int x264, int 0, int 0, int 0, int 0, .sc (.slice none 0 0)]]⟩ sh3 ?_
  refine tr tbk 15 (.mk ?_)
  refine sY (yv_to (y := boo false) (yv_eql rfl rfl rfl) (congrArg boo (by decide))) ?_
  refine tr tbk 4 (.mk ?_)
  obtain ⟨j266, h3, h2⟩ := bind_e h2
  refine rse (Out := fun y H' => (∃ (a : Unit) (k : Unit), a = j266 ∧ y = .pt 2 v15 0 5 ∧ H' = hk [(1, ⟨87, 2, true, true, w0_1, [[str x265.1, boo x265.2]]⟩), (2, ⟨28, 9, true, true, v15, [[int x13, int x256, int x260, int x264, int 0, int 0, int 0, int 0, .sc (.slice none 0 0)]]⟩), (4, ⟨28, 9, true, true, w1_1, y1_4.map GOp.av⟩)])) rfl rfl rfl (yl_call rfl rfl (.cons rfl (.cons rfl .nil)) cal23 ?_) ?_
  refine pcw (c := _) Try.func23 rfl rfl ?_; intro Q hret hnorm
  refine tc tbk 12 (.mk ?_)
  refine sY (yv_to (y := boo false) (yv_eql rfl rfl rfl) (congrArg boo (by decide))) ?_
  refine tr tbk 5 (.mk ?_)
  refine sY (yv_to (y := boo false) (yv_eql rfl rfl rfl) (congrArg boo (by decide))) ?_
  refine tr tbk 5 (.mk ?_)
  refine sY (yv_to (y := boo false) (yv_eql rfl rfl rfl) (congrArg boo (by decide))) ?_
  refine tr tbk 5 (.mk ?_)
  refine sY (yv_to (y := boo false) (yv_eql rfl rfl rfl) (congrArg boo (by decide))) ?_
  refine tr tbk 5 (.mk ?_)
  refine sY (yv_to (y := boo true) (yv_eql rfl rfl rfl) (congrArg boo (by decide))) ?_
  refine tr tbk 10 (.mk ?_)
  obtain rfl := nxt_e h3
  refine w_ret (hret _ _ (hk [(1, ⟨87, 2, true, true, w0_1, [[str x265.1, boo x265.2]]⟩), (2, ⟨28, 9, true, true, v15, [[int x13, int x256, int x260, int x264, int 0, int 0, int 0, int 0, .sc (.slice none 0 0)]]⟩), (4, ⟨28, 9, true, true, w1_1, y1_4.map GOp.av⟩)]) (.tmp rfl .nil) (HK.le ⟨rfl, rfl, rfl, trivial⟩) ?_)
  exact ⟨(), (), rfl, rfl, rfl⟩
  rintro y _ ⟨_, _, rfl, hc, rfl⟩
  subst hc
  refine tr tbk 1 (.mk ?_)
  obtain ⟨p267, h2⟩ := asrt_e h2
  obtain ⟨x268, e268, h2⟩ := bnd_e h2
  obtain ⟨x269, e269, h2⟩ := bnd_e h2
  refine rse rfl rfl rfl (yl_call rfl rfl (.cons rfl .nil) cal31 (PC.mono (numP_c (s := x265) (id := 1) (ver := w0_1) rfl p267) (R' := fun y H' => y = int x268 ∧ H' = upd _ 1 (some (rdr 87 w0_1 x269))) (fun y H' h => ⟨h.1.trans (congrArg int e268), h.2.trans (rdr_cong e269)⟩))) ?_; rintro _ _ ⟨rfl, rfl⟩
  refine tr tbk 1 (.mk ?_)
  refine sS ⟨28, 9, true, true, v15, [[int x13, int x256, int x260, int x264, int 0, int x268, int 0, int 0, .sc (.slice none 0 0)]]⟩ sh3 ?_
  refine tr tbk 8 (.mk ?_)
  refine jn h2 [2, 3, 4, 5, 6, 15, 16] [1, 2, 4] (fun (a : Bool) (k : Unit) => [(45, boo a)]) (fun a k => []) ⟨fun j270 h3 => ?_, ?_⟩
  refine tc tbk 2 (.mk ?_)
  refine sY (yv_callR rfl rfl (.cons rfl .nil) cal32 (badP_c (s := x269) (id := 1) (ver := w0_1) rfl) (.sc _)) ?_
  refine tr tbk 1 (.mk ?_)
  obtain ⟨x271, e271, h3⟩ := bnd_e h3
  refine rsas 40 (boo x271) rfl (congrArg boo e271) ?_
  refine rsas 41 (boo x271) rfl (congrArg boo e271) ?_
  cases x271
  replace h3 := cf h3
  refine tr tbk 1 (.mk ?_)
  obtain ⟨x272, e272, h3⟩ := bind_e h3
  refine sY (yv_callP rfl rfl (.cons rfl .nil) cal8 (.cons (CvL.agg (.cons (.refl _) (.cons (.refl _) (.cons (.refl _) (.cons (.refl _) (.cons (.refl _) (.cons (.refl _) (.cons (.refl _) (.cons (.refl _) (.cons (.nil _) .nil)))))))))) .nil) (d_ops_Check_c e272)) ?_
  refine nb tbk h3 fun x273 h3 => ?_
  refine tr tbk 2 (.mk ?_)
  exact lf h3 () leA
  replace h3 := ct h3
  refine tr tbk 5 (.mk ?_)
  exact lf h3 () leA
  rintro y3_1 _ h2
  cases y3_1
  replace h2 := cf h2
  refine tc tbk 5 (.mk ?_)
  refine sY (yv_buildSlice (ps := [(0, _)]) (rows := [[int x13, int x256, int x260, int x264, int 0, int x268, int 0, int 0, .sc (.slice none 0 0)]]) rfl Try.underlying22 bz28 (.cons rfl .nil) (by kernel_rfl) rfl rfl rfl) ?_
  obtain ⟨x274, e274, h2⟩ := bnd_e h2
  obtain ⟨p275, h2⟩ := asrt_e h2
  refine rse rfl rfl rfl (yl_appT (g := GOp.av) (l := y1_4) (m := [(⟨x13, x256, x260, x264, 0, x268, 0, 0, []⟩ : GOp)]) .any rfl Try.underlying22 bz28 by28 rfl rfl rfl rfl rfl rfl rfl rfl rfl rfl (Eq.symm rfl) (CvLL.list (.cons (.cons (.refl _) (.cons (.refl _) (.cons (.refl _) (.cons (.refl _) (.cons (.refl _) (.cons (.refl _) (.cons (.refl _) (.cons (.refl _) (.cons (.nil _) .nil))))))))) .nil)) (fun _ => rfl) e274 p275) ?_; rintro _ _ ⟨v276, -, rfl, rfl⟩
  refine tr tbk 3 (.mk ?_)
  exact lfE h2 v276 leA
  replace h2 := ct h2
  refine tc tbk 6 (.mk ?_)
  obtain ⟨c277, hX, hj⟩ := esc_e h2; subst hj; replace h1 := hX.trans (sel_r h1)
  obtain ⟨c278, hX, hj⟩ := esc_e h1; subst hj; replace h0 := hX.trans (sel_r h0)
  obtain rfl := nxt_e h0
  refine wR hret (rT (rT .nil)) ?_
  exact CvL.tup (.cons (.nil _) (.cons (.refl _) .nil))
  replace h2 := ct h2
  refine w_rangeD [0, 0, 2, 7, 15] (fun i => bif Nat.beq i 1 then ([2]) else bif Nat.beq i 2 then ([2]) else []) (fun i => [2]) 4 [0, 1, 2, 3] mixed (by kernel_rfl) rfl rfl rfl rfl rfl rfl rfl rfl rfl rfl rfl rfl rfl Try.underlying9 ?_
  refine eP (fun H hH => yv_callP rfl rfl .nil cal20 (CvL.refl _) forms20_c) ?_
  refine eF fo28_0 ?_
  refine eL sh3 ?_
  refine de_as 23 (int 5) rfl (congrArg int (of_decide_eq_true e21)) ?_
  refine de_pure rfl rfl rfl rfl (fun H hH => yv_indexA rfl Try.underlying46 sh45 rfl rfl (by decide) rfl) ?_
  refine ⟨_, rfl, rfl, fun b279 => ?_⟩
  refine tc tbk 13 (.mk ?_)
  refine sY (yv_to (y := boo false) (yv_eql rfl rfl rfl) (congrArg boo (by decide))) ?_
  refine tr tbk 4 (.mk ?_)
  obtain ⟨j280, h3, h2⟩ := bind_e h2
  refine rse (Out := fun y H' => (∃ (a : Unit) (k : Unit), a = j280 ∧ y = .pt 2 v15 0 5 ∧ H' = hk [(1, ⟨87, 2, true, true, w0_1, [[str x14.1, boo x14.2]]⟩), (2, ⟨28, 9, true, true, v15, [[int x13, int 0, int 0, int 0, int 0, int 0, int 0, int 0, .sc (.slice none 0 0)]]⟩), (4, ⟨28, 9, true, true, w1_1, y1_4.map GOp.av⟩)])) rfl rfl rfl (yl_call rfl rfl (.cons rfl (.cons rfl .nil)) cal23 ?_) ?_
  refine pcw (c := _) Try.func23 rfl rfl ?_; intro Q hret hnorm
  refine tc tbk 12 (.mk ?_)
  refine sY (yv_to (y := boo false) (yv_eql rfl rfl rfl) (congrArg boo (by decide))) ?_
  refine tr tbk 5 (.mk ?_)
  refine sY (yv_to (y := boo false) (yv_eql rfl rfl rfl) (congrArg boo (by decide))) ?_
  refine tr tbk 5 (.mk ?_)
  refine sY (yv_to (y := boo false) (yv_eql rfl rfl rfl) (congrArg boo (by decide))) ?_
  refine tr tbk 5 (.mk ?_)
  refine sY (yv_to (y := boo false) (yv_eql rfl rfl rfl) (congrArg boo (by decide))) ?_
  refine tr tbk 5 (.mk ?_)
  refine sY (yv_to (y := boo true) (yv_eql rfl rfl rfl) (congrArg boo (by decide))) ?_
  refine tr tbk 10 (.mk ?_)
  obtain rfl := nxt_e h3
  refine w_ret (hret _ _ (hk [(1, ⟨87, 2, true, true, w0_1, [[str x14.1, boo x14.2]]⟩), (2, ⟨28, 9, true, true, v15, [[int x13, int 0, int 0, int 0, int 0, int 0, int 0, int 0, .sc (.slice none 0 0)]]⟩), (4, ⟨28, 9, true, true, w1_1, y1_4.map GOp.av⟩)]) (.tmp rfl .nil) (HK.le ⟨rfl, rfl, rfl, trivial⟩) ?_)
  exact ⟨(), (), rfl, rfl, rfl⟩
  rintro y _ ⟨_, _, rfl, hc, rfl⟩
  subst hc
  refine tr tbk 1 (.mk ?_)
  obtain ⟨p281, h2⟩ := asrt_e h2
  obtain ⟨x282, e282, h2⟩ := bnd_e h2
  obtain ⟨x283, e283, h2⟩ := bnd_e h2
  refine rse rfl rfl rfl (yl_call rfl rfl (.cons rfl .nil) cal31 (PC.mono (numP_c (s := x14) (id := 1) (ver := w0_1) rfl p281) (R' := fun y H' => y = int x282 ∧ H' = upd _ 1 (some (rdr 87 w0_1 x283))) (fun y H' h => ⟨h.1.trans (congrArg int e282), h.2.trans (rdr_cong e283)⟩))) ?_; rintro _ _ ⟨rfl, rfl⟩
  refine tr tbk 1 (.mk ?_)
  refine sS ⟨28, 9, true, true, v15, [[int x13, int 0, int 0, int 0, int 0, int x282, int 0, int 0, .sc (.slice none 0 0)]]⟩ sh3 ?_
  refine tr tbk 15 (.mk ?_)
  refine sY (yv_to (y := boo false) (yv_eql rfl rfl rfl) (congrArg boo (by decide))) ?_
  refine tr tbk 4 (.mk ?_)
  obtain ⟨j284, h3, h2⟩ := bind_e h2
  refine rse (Out := fun y H' => (∃ (a : Unit) (k : Unit), a = j284 ∧ y = .pt 2 v15 0 6 ∧ H' = hk [(1, ⟨87, 2, true, true, w0_1, [[str x283.1, boo x283.2]]⟩), (2, ⟨28, 9, true, true, v15, [[int x13, int 0, int 0, int 0, int 0, int x282, int 0, int 0, .sc (.slice none 0 0)]]⟩), (4, ⟨28, 9, true, true, w1_1, y1_4.map GOp.av⟩)])) rfl rfl rfl (yl_call rfl rfl (.cons rfl (.cons rfl .nil)) cal23 ?_) ?_
  refine pcw (c := _) Try.func23 rfl rfl ?_; intro Q hret hnorm
  refine tc tbk 12 (.mk ?_)
  refine sY (yv_to (y := boo false) (yv_eql rfl rfl rfl) (congrArg boo (by decide))) ?_
  refine tr tbk 5 (.mk ?_)
  refine sY (yv_to (y := boo false) (yv_eql rfl rfl rfl) (congrArg boo (by decide))) ?_
  refine tr tbk 5 (.mk ?_)
  refine sY (yv_to (y := boo false) (yv_eql rfl rfl rfl) (congrArg boo (by decide))) ?_
  refine tr tbk 5 (.mk ?_)
  refine sY (yv_to (y := boo false) (yv_eql rfl rfl rfl) (congrArg boo (by decide))) ?_
  refine tr tbk 5 (.mk ?_)
  refine sY (yv_to (y := boo false) (yv_eql rfl rfl rfl) (congrArg boo (by decide))) ?_
  refine tr tbk 5 (.mk ?_)
  refine sY (yv_to (y := boo true) (yv_eql rfl rfl rfl) (congrArg boo (by decide))) ?_
  refine tr tbk 10 (.mk ?_)
  obtain rfl := nxt_e h3
  refine w_ret (hret _ _ (hk [(1, ⟨87, 2, true, true, w0_1, [[str x283.1, boo x283.2]]⟩), (2, ⟨28, 9, true, true, v15, [[int x13, int 0, int 0, int 0, int 0, int x282, int 0, int 0, .sc (.slice none 0 0)]]⟩), (4, ⟨28, 9, true, true, w1_1, y1_4.map GOp.av⟩)]) (.tmp rfl .nil) (HK.le ⟨rfl, rfl, rfl, trivial⟩) ?_)
  exact ⟨(), (), rfl, rfl, rfl⟩
  rintro y _ ⟨_, _, rfl, hc, rfl⟩
  subst hc
  refine tr tbk 1 (.mk ?_)
  obtain ⟨p285, h2⟩ := asrt_e h2
  obtain ⟨x286, e286, h2⟩ := bnd_e h2
  obtain ⟨x287, e287, h2⟩ := bnd_e h2
  refine rse rfl rfl rfl (yl_call rfl rfl (.cons rfl .nil) cal31 (PC.mono (numP_c (s := x283) (id := 1) (ver := w0_1) rfl p285) (R' := fun y H' => y = int x286 ∧ H' = upd _ 1 (some (rdr 87 w0_1 x287))) (fun y H' h => ⟨h.1.trans (congrArg int e286), h.2.trans (rdr_cong e287)⟩))) ?_; rintro _ _ ⟨rfl, rfl⟩
  refine tr tbk 1 (.mk ?_)
  refine sS ⟨28, 9, true, true, v15, [[int x13, int 0, int 0, int 0, int 0, int x282, int x286, int 0, .sc (.slice none 0 0)]]⟩ sh3 ?_
  refine tr tbk 15 (.mk ?_)
  refine sY (yv_to (y := boo false) (yv_eql rfl rfl rfl) (congrArg boo (by decide))) ?_
  refine tr tbk 4 (.mk ?_)
  obtain ⟨j288, h3, h2⟩ := bind_e h2
  refine rse (Out := fun y H' => (∃ (a : Unit) (k : Unit), a = j288 ∧ y = .pt 2 v15 0 7 ∧ H' = hk [(1, ⟨87, 2, true, true, w0_1, [[str x287.1, boo x287.2]]⟩), (2, ⟨28, 9, true, true, v15, [[int x13, int 0, int 0, int 0, int 0, int x282, int x286, int 0, .sc (.slice none 0 0)]]⟩), (4, ⟨28, 9, true, true, w1_1, y1_4.map GOp.av⟩)])) rfl rfl rfl (yl_call rfl rfl (.cons rfl (.cons rfl .nil)) cal23 ?_) ?_
  refine pcw (c := _) Try.func23 rfl rfl ?_; intro Q hret hnorm
  refine tc tbk 12 (.mk ?_)
  refine sY (yv_to (y := boo false) (yv_eql rfl rfl rfl) (congrArg boo (by decide))) ?_
  refine tr tbk 5 (.mk ?_)
  refine sY (yv_to (y := boo false) (yv_eql rfl rfl rfl) (congrArg boo (by decide))) ?_
  refine tr tbk 5 (.mk ?_)
  refine sY (yv_to (y := boo false) (yv_eql rfl rfl rfl) (congrArg boo (by decide))) ?_
  refine tr tbk 5 (.mk ?_)
  refine sY (yv_to (y := boo false) (yv_eql rfl rfl rfl) (congrArg boo (by decide))) ?_
  refine tr tbk 5 (.mk ?_)
  refine sY (yv_to (y := boo false) (yv_eql rfl rfl rfl) (congrArg boo (by decide))) ?_
  refine tr tbk 5 (.mk ?_)
  refine sY (yv_to (y := boo false) (yv_eql rfl rfl rfl) (congrArg boo (by decide))) ?_
  refine tr tbk 12 (.mk ?_)
  obtain rfl := nxt_e h3
  refine w_ret (hret _ _ (hk [(1, ⟨87, 2, true, true, w0_1, [[str x287.1, boo x287.2]]⟩), (2, ⟨28, 9, true, true, v15, [[int x13, int 0, int 0, int 0, int 0, int x282, int x286, int 0, .sc (.slice none 0 0)]]⟩), (4, ⟨28, 9, true, true, w1_1, y1_4.map GOp.av⟩)]) (.tmp rfl .nil) (HK.le ⟨rfl, rfl, rfl, trivial⟩) ?_)
  exact ⟨(), (), rfl, rfl, rfl⟩
  rintro y _ ⟨_, _, rfl, hc, rfl⟩
  subst hc
  refine tr tbk 1 (.mk ?_)
  obtain ⟨p289, h2⟩ := asrt_e h2
  obtain ⟨x290, e290, h2⟩ := bnd_e h2
  obtain ⟨x291, e291, h2⟩ := bnd_e h2
  refine rse rfl rfl rfl (yl_call rfl rfl (.cons rfl .nil) cal31 (PC.mono (numP_c (s := x287) (id := 1) (ver := w0_1) rfl p289) (R' := fun y H' => y = int x290 ∧ H' = upd _ 1 (some (rdr 87 w0_1 x291))) (fun y H' h => ⟨h.1.trans (congrArg int e290), h.2.trans (rdr_cong e291)⟩))) ?_; rintro _ _ ⟨rfl, rfl⟩
  refine tr tbk 1 (.mk ?_)
  refine sS ⟨28, 9, true, true, v15, [[int x13, int 0, int 0, int 0, int 0, int x282, int x286, int x290, .sc (.slice none 0 0)]]⟩ sh3 ?_
  refine tr tbk 8 (.mk ?_)
  refine jn h2 [2, 3, 4, 5, 6, 15, 16] [1, 2, 4] (fun (a : Bool) (k : Unit) => [(45, boo a)]) (fun a k => []) ⟨fun j292 h3 => ?_, ?_⟩
  refine tc tbk 2 (.mk ?_)
  refine sY (yv_callR rfl rfl (.cons rfl .nil) cal32 (badP_c (s := x291) (id := 1) (ver := w0_1) rfl) (.sc _)) ?_
  refine tr tbk 1 (.mk ?_)
  obtain ⟨x293, e293, h3⟩ := bnd_e h3
  refine rsas 40 (boo x293) rfl (congrArg boo e293) ?_
  refine rsas 41 (boo x293) rfl (congrArg boo e293) ?_
  cases x293
  replace h3 := cf h3
  refine tr tbk 1 (.mk ?_)
  obtain ⟨x294, e294, h3⟩ := bind_e h3
  refine sY (yv_callP rfl rfl (.cons rfl .nil) cal8 (.cons (CvL.agg (.cons (.refl _) (.cons (.refl _) (.cons (.refl _) (.cons (.refl _) (.cons (.refl _) (.cons (.refl _) (.cons (.refl _) (.cons (.refl _) (.cons (.nil _) .nil)))))))))) .nil) (d_ops_Check_c e294)) ?_
  refine nb tbk h3 fun x295 h3 => ?_
  refine tr tbk 2 (.mk ?_)
  exact lf h3 () leA
  replace h3 := ct h3
  refine tr tbk 5 (.mk ?_)
  exact lf h3 () leA
  rintro y3_1 _ h2
  cases y3_1
  replace h2 := cf h2
  refine tc tbk 5 (.mk ?_)
  refine sY (yv_buildSlice (ps := [(0, _)]) (rows := [[int x13, int 0, int 0, int 0, int 0, int x282, int x286, int x290, .sc (.slice none 0 0)]]) rfl Try.underlying22 bz28 (.cons rfl .nil) (by kernel_rfl) rfl rfl rfl) ?_
  obtain ⟨x296, e296, h2⟩ := bnd_e h2
  obtain ⟨p297, h2⟩ := asrt_e h2
  refine rse rfl rfl rfl (yl_appT (g := GOp.av) (l := y1_4) (m := [(⟨x13, 0, 0, 0, 0, x282, x286, x290, []⟩ : GOp)]) .any rfl Try.underlying22 bz28 by28 rfl rfl rfl rfl rfl rfl rfl rfl rfl rfl (Eq.symm rfl) (CvLL.list (.cons (.cons (.refl _) (.cons (.refl _) (.cons (.refl _) (.cons (.refl _) (.cons (.refl _) (.cons (.refl _) (.cons (.refl _) (.cons (.refl _) (.cons (.nil _) .nil))))))))) .nil)) (fun _ => rfl) e296 p297) ?_; rintro _ _ ⟨v298, -, rfl, rfl⟩
  refine tr tbk 3 (.mk ?_)
  exact lfE h2 v298 leA
  replace h2 := ct h2
  refine tc tbk 6 (.mk ?_)
  obtain ⟨c299, hX, hj⟩ := esc_e h2; subst hj; replace h1 := hX.trans (sel_r h1)
  obtain ⟨c300, hX, hj⟩ := esc_e h1; subst hj; replace h0 := hX.trans (sel_r h0)
  obtain rfl := nxt_e h0
  refine wR hret (rT (rT .nil)) ?_
  exact CvL.tup (.cons (.nil _) (.cons (.refl _) .nil))
  replace h2 := ct h2
  refine w_rangeD [0, 0, 2, 7, 15] (fun i => bif Nat.beq i 1 then ([2]) else bif Nat.beq i 2 then ([2]) else []) (fun i => [2]) 4 [0, 1, 2, 3] mixed (by kernel_rfl) rfl rfl rfl rfl rfl rfl rfl rfl rfl rfl rfl rfl rfl Try.underlying9 ?_
  refine eP (fun H hH => yv_callP rfl rfl .nil cal20 (CvL.refl _) forms20_c) ?_
  refine eF fo28_0 ?_
  refine eL sh3 ?_
  refine de_as 23 (int 4) rfl (congrArg int (of_decide_eq_true e20)) ?_
  refine de_pure rfl rfl rfl rfl (fun H hH => yv_indexA rfl Try.underlying46 sh45 rfl rfl (by decide) rfl) ?_
  refine ⟨_, rfl, rfl, fun b301 => ?_⟩
  refine tc tbk 13 (.mk ?_)
  refine sY (yv_to (y := boo false) (yv_eql rfl rfl rfl) (congrArg boo (by decide))) ?_
  refine tr tbk 4 (.mk ?_)
  obtain ⟨j302, h3, h2⟩ := bind_e h2
  refine rse (Out := fun y H' => (∃ (a : Unit) (k : Unit), a = j302 ∧ y = .pt 2 v15 0 1 ∧ H' = hk [(1, ⟨87, 2, true, true, w0_1, [[str x14.1, boo x14.2]]⟩), (2, ⟨28, 9, true, true, v15, [[int x13, int 0, int 0, int 0, int 0, int 0, int 0, int 0, .sc (.slice none 0 0)]]⟩), (4, ⟨28, 9, true, true, w1_1, y1_4.map GOp.av⟩)])) rfl rfl rfl (yl_call rfl rfl (.cons rfl (.cons rfl .nil)) cal23 ?_) ?_
  refine pcw (c := _) Try.func23 rfl rfl ?_; intro Q hret hnorm
  refine tc tbk 12 (.mk ?_)
  refine sY (yv_to (y := boo true) (yv_eql rfl rfl rfl) (congrArg boo (by decide))) ?_
  refine tr tbk 10 (.mk ?_)
  obtain rfl := nxt_e h3
  refine w_ret (hret _ _ (hk [(1, ⟨87, 2, true, true, w0_1, [[str x14.1, boo x14.2]]⟩), (2, ⟨28, 9, true, true, v15, [[int x13, int 0, int 0, int 0, int 0, int 0, int 0, int 0, .sc (.slice none 0 0)]]⟩), (4, ⟨28, 9, true, true, w1_1, y1_4.map GOp.av⟩)]) (.tmp rfl .nil) (HK.le ⟨rfl, rfl, rfl, trivial⟩) ?_)
  exact ⟨(), (), rfl, rfl, rfl⟩
  rintro y _ ⟨_, _, rfl, hc, rfl⟩
  subst hc
  refine tr tbk 1 (.mk ?_)
  obtain ⟨p303, h2⟩ := asrt_e h2
  obtain ⟨x304, e304, h2⟩ := bnd_e h2
  obtain ⟨x305, e305, h2⟩ := bnd_e h2
  refine rse rfl rfl rfl (yl_call rfl rfl (.cons rfl .nil) cal31 (PC.mono (numP_c (s := x14) (id := 1) (ver := w0_1) rfl p303) (R' := fun y H' => y = int x304 ∧ H' = upd _ 1 (some (rdr 87 w0_1 x305))) (fun y H' h => ⟨h.1.trans (congrArg int e304), h.2.trans (rdr_cong e305)⟩))) ?_; rintro _ _ ⟨rfl, rfl⟩
  refine tr tbk 1 (.mk ?_)
  refine sS ⟨28, 9, true, true, v15, [[int x13, int x304, int 0, int 0, int 0, int 0, int 0, int 0, .sc (.slice none 0 0)]]⟩ sh3 ?_
  refine tr tbk 15 (.mk ?_)
  refine sY (yv_to (y := boo false) (yv_eql rfl rfl rfl) (congrArg boo (by decide))) ?_
  refine tr tbk 4 (.mk ?_)
  obtain ⟨j306, h3, h2⟩ := bind_e h2
  refine rse (Out := fun y H' => (∃ (a : Unit) (k : Unit), a = j306 ∧ y = .pt 2 v15 0 2 ∧ H' = hk [(1, ⟨87, 2, true, true, w0_1, [[str x305.1, boo x305.2]]⟩), (2, ⟨28, 9, true, true, v15, [[int x13, int x304, int 0, int 0, int 0, int 0, int 0, int 0, .sc (.slice none 0 0)]]⟩), (4, ⟨28, 9, true, true, w1_1, y1_4.map GOp.av⟩)])) rfl rfl rfl (yl_call rfl rfl (.cons rfl (.cons rfl .nil)) cal23 ?_) ?_
  refine pcw (c := _) Try.func23 rfl rfl ?_; intro Q hret hnorm
  refine tc tbk 12 (.mk ?_)
  refine sY (yv_to (y := boo false) (yv_eql rfl rfl rfl) (congrArg boo (by decide))) ?_
  refine tr tbk 5 (.mk ?_)
  refine sY (yv_to (y := boo true) (yv_eql rfl rfl rfl) (congrArg boo (by decide))) ?_
  refine tr tbk 10 (.mk ?_)
  obtain rfl := nxt_e h3
  refine w_ret (hret _ _ (hk [(1, ⟨87, 2, true, true, w0_1, [[str x305.1, boo x305.2]]⟩), (2, ⟨28, 9, true, true, v15, [[int x13, int x304, int 0, int 0, int 0, int 0, int 0, int 0, .sc (.slice none 0 0)]]⟩), (4, ⟨28, 9, true, true, w1_1, y1_4.map GOp.av⟩)]) (.tmp rfl .nil) (HK.le ⟨rfl, rfl, rfl, trivial⟩) ?_)
  exact ⟨(), (), rfl, rfl, rfl⟩
  rintro y _ ⟨_, _, rfl, hc, rfl⟩
  subst hc
  refine tr tbk 1 (.mk ?_)
  obtain ⟨p307, h2⟩ := asrt_e h2
  obtain ⟨x308, e308, h2⟩ := bnd_e h2
  obtain ⟨x309, e309, h2⟩ := bnd_e h2
  refine rse rfl rfl rfl (yl_call rfl rfl (.cons rfl .nil) cal31 (PC.mono (numP_c (s := x305) (id := 1) (ver := w0_1) rfl p307) (R' := fun y H' => y = int x308 ∧ H' = upd _ 1 (some (rdr 87 w0_1 x309))) (fun y H' h => ⟨h.1.trans (congrArg int e308), h.2.trans (rdr_cong e309)⟩))) ?_; rintro _ _ ⟨rfl, rfl⟩
  refine tr tbk 1 (.mk ?_)
  refine sS ⟨28, 9, true, true, v15, [[int x13, int x304, int x308, int 0, int 0, int 0, int 0, int 0, .sc (.slice none 0 0)]]⟩ sh3 ?_
  refine tr tbk 15 (.mk ?_)
  refine sY (yv_to (y := boo false) (yv_eql rfl rfl rfl) (congrArg boo (by decide))) ?_
  refine tr tbk 4 (.mk ?_)
  obtain ⟨j310, h3, h2⟩ := bind_e h2
  refine rse (Out := fun y H' => (∃ (a : Unit) (k : Unit), a = j310 ∧ y = .pt 2 v15 0 3 ∧ H' = hk [(1, ⟨87, 2, true, true, w0_1, [[str x309.1, boo x309.2]]⟩), (2, ⟨28, 9, true, true, v15, [[int x13, int x304, int x308, int 0, int 0, int 0, int 0, int 0, .sc (.slice none 0 0)]]⟩), (4, ⟨28, 9, true, true, w1_1, y1_4.map GOp.av⟩)])) rfl rfl rfl (yl_call rfl rfl (.cons rfl (.cons rfl .nil)) cal23 ?_) ?_
  refine pcw (c := _) Try.func23 rfl rfl ?_; intro Q hret hnorm
  refine tc tbk 12 (.mk ?_)
  refine sY (yv_to (y := boo false) (yv_eql rfl rfl rfl) (congrArg boo (by decide))) ?_
  refine tr tbk 5 (.mk ?_)
  refine sY (yv_to (y := boo false) (yv_eql rfl rfl rfl) (congrArg boo (by decide))) ?_
  refine tr tbk 5 (.mk ?_)
  refine sY (yv_to (y := boo true) (yv_eql rfl rfl rfl) (congrArg boo (by decide))) ?_
  refine tr tbk 10 (.mk ?_)
  obtain rfl := nxt_e h3
  refine w_ret (hret _ _ (hk [(1, ⟨87, 2, true, true, w0_1, [[str x309.1, boo x309.2]]⟩), (2, ⟨28, 9, true, true, v15, [[int x13, int x304, int x308, int 0, int 0, int 0, int 0, int 0, .sc (.slice none 0 0)]]⟩), (4, ⟨28, 9, true, true, w1_1, y1_4.map GOp.av⟩)]) (.tmp rfl .nil) (HK.le ⟨rfl, rfl, rfl, trivial⟩) ?_)
  exact ⟨(), (), rfl, rfl, rfl⟩
  rintro y _ ⟨_, _, rfl, hc, rfl⟩
  subst hc
  refine tr tbk 1 (.mk ?_)
  obtain ⟨p311, h2⟩ := asrt_e h2
  obtain ⟨x312, e312, h2⟩ := bnd_e h2
  obtain ⟨x313, e313, h2⟩ := bnd_e h2
  refine rse rfl rfl rfl (yl_call rfl rfl (.cons rfl .nil) cal31 (PC.mono (numP_c (s := x309) (id := 1) (ver := w0_1) rfl p311) (R' := fun y H' => y = int x312 ∧ H' = upd _ 1 (some (rdr 87 w0_1 x313))) (fun y H' h => ⟨h.1.trans (congrArg int e312), h.2.trans (rdr_cong e313)⟩))) ?_; rintro _ _ ⟨rfl, rfl⟩
  refine tr tbk 1 (.mk ?_)
  refine sS ⟨28, 9, true, true, v15, [[int x13, int x304, int x308, int x312, int 0, int 0, int 0, int 0, .sc (.slice none 0 0)]]⟩ sh3 ?_
  refine tr tbk 15 (.mk ?_)
  refine sY (yv_to (y := boo false) (yv_eql rfl rfl rfl) (congrArg boo (by decide))) ?_
  refine tr tbk 4 (.mk ?_)
  obtain ⟨j314, h3, h2⟩ := bind_e h2
  refine rse (Out := fun y H' => (∃ (a : Unit) (k : Unit), a = j314 ∧ y = .pt 2 v15 0 5 ∧ H' = hk [(1, ⟨87, 2, true, true, w0_1, [[str x313.1, boo x313.2]]⟩), (2, ⟨28, 9, true, true, v15, [[int x13, int x304, int x308, int x312, int 0, int 0, int 0, int 0, .sc (.slice none 0 0)]]⟩), (4, ⟨28, 9, true, true, w1_1, y1_4.map GOp.av⟩)])) rfl rfl rfl (yl_call rfl rfl (.cons rfl (.cons rfl .nil)) cal23 ?_) ?_
  refine pcw (c := _) Try.func23 rfl rfl ?_; intro Q hret hnorm
  refine tc tbk 12 (.mk ?_)
  refine sY (yv_to (y := boo false) (yv_eql rfl rfl rfl) (congrArg boo (by decide))) ?_
  refine tr tbk 5 (.mk ?_)
  refine sY (yv_to (y := boo false) (yv_eql rfl rfl rfl) (congrArg boo (by decide))) ?_
  refine tr tbk 5 (.mk ?_)
  refine sY (yv_to (y := boo false) (yv_eql rfl rfl rfl) (congrArg boo (by decide))) ?_
  refine tr tbk 5 (.mk ?_)
  refine sY (yv_to (y := boo false) (yv_eql rfl rfl rfl) (congrArg boo (by decide))) ?_
  refine tr tbk 5 (.mk ?_)
  refine sY (yv_to (y := boo true) (yv_eql rfl rfl rfl) (congrArg boo (by decide))) ?_
  refine tr tbk 10 (.mk ?_)
  obtain rfl := nxt_e h3
  refine w_ret (hret _ _ (hk [(1, ⟨87, 2, true, true, w0_1, [[str x313.1, boo x313.2]]⟩), (2, ⟨28, 9, true, true, v15, [[int x13, int x304, int x308, int x312, int 0, int 0, int 0, int 0, .sc (.slice none 0 0)]]⟩), (4, ⟨28, 9, true, true, w1_1, y1_4.map GOp.av⟩)]) (.tmp rfl .nil) (HK.le ⟨rfl, rfl, rfl, trivial⟩) ?_)
  exact ⟨(), (), rfl, rfl, rfl⟩
  rintro y _ ⟨_, _, rfl, hc, rfl⟩
  subst hc
  refine tr tbk 1 (.mk ?_)
  obtain ⟨p315, h2⟩ := asrt_e h2
  obtain ⟨x316, e316, h2⟩ := bnd_e h2
  obtain ⟨x317, e317, h2⟩ := bnd_e h2
  refine rse rfl rfl rfl (yl_call rfl rfl (.cons rfl .nil) cal31 (PC.mono (numP_c (s := x313) (id := 1) (ver := w0_1) rfl p315) (R' := fun y H' => y = int x316 ∧ H' = upd _ 1 (some (rdr 87 w0_1 x317))) (fun y H' h => ⟨h.1.trans (congrArg int e316), h.2.trans (rdr_cong e317)⟩))) ?_; rintro _ _ ⟨rfl, rfl⟩
  refine tr tbk 1 (.mk ?_)
  refine sS ⟨28, 9, true, true, v15, [[int x13, int x304, int x308, int x312, int 0, int x316, int 0, int 0, .sc (.slice none 0 0)]]⟩ sh3 ?_
  refine tr tbk 15 (.mk ?_)
  refine sY (yv_to (y := boo false) (yv_eql rfl rfl rfl) (congrArg boo (by decide))) ?_
  refine tr tbk 4 (.mk ?_)
  obtain ⟨j318, h3, h2⟩ := bind_e h2
  refine rse (Out := fun y H' => (∃ (a : Unit) (k : Unit), a = j318 ∧ y = .pt 2 v15 0 6 ∧ H' = hk [(1, ⟨87, 2, true, true, w0_1, [[str x317.1, boo x317.2]]⟩), (2, ⟨28, 9, true, true, v15, [[int x13, int x304, int x308, int x312, int 0, int x316, int 0, int 0, .sc (.slice none 0 0)]]⟩), (4, ⟨28, 9, true, true, w1_1, y1_4.map GOp.av⟩)])) rfl rfl rfl (yl_call rfl rfl (.cons rfl (.cons rfl .nil)) cal23 ?_) ?_
  refine pcw (c := _) Try.func23 rfl rfl ?_; intro Q hret hnorm
  refine tc tbk 12 (.mk ?_)
  refine sY (yv_to (y := boo false) (yv_eql rfl rfl rfl) (congrArg boo (by decide))) ?_
  refine tr tbk 5 (.mk ?_)
  refine sY (yv_to (y := boo false) (yv_eql rfl rfl rfl) (congrArg boo (by decide))) ?_
  refine tr tbk 5 (.mk ?_)
  refine sY (yv_to (y := boo false) (yv_eql rfl rfl rfl) (congrArg boo (by decide))) ?_
  refine tr tbk 5 (.mk ?_)
  refine sY (yv_to (y := boo false) (yv_eql rfl rfl rfl) (congrArg boo (by decide))) ?_
  refine tr tbk 5 (.mk ?_)
  refine sY (yv_to (y := boo false) (yv_eql rfl rfl rfl) (congrArg boo (by decide))) ?_
  refine tr tbk 5 (.mk ?_)
  refine sY (yv_to (y := boo true) (yv_eql rfl rfl rfl) (congrArg boo (by decide))) ?_
  refine tr tbk 10 (.mk ?_)
  obtain rfl := nxt_e h3
  refine w_ret (hret _ _ (hk [(1, ⟨87, 2, true, true, w0_1, [[str x317.1, boo x317.2]]⟩), (2, ⟨28, 9, true, true, v15, [[int x13, int x304, int x308, int x312, int 0, int x316, int 0, int 0, .sc (.slice none 0 0)]]⟩), (4, ⟨28, 9, true, true, w1_1, y1_4.map GOp.av⟩)]) (.tmp rfl .nil) (HK.le ⟨rfl, rfl, rfl, trivial⟩) ?_)
  exact ⟨(), (), rfl, rfl, rfl⟩
  rintro y _ ⟨_, _, rfl, hc, rfl⟩
  subst hc
  refine tr tbk 1 (.mk ?_)
  obtain ⟨p319, h2⟩ := asrt_e h2
  obtain ⟨x320, e320, h2⟩ := bnd_e h2
  obtain ⟨x321, e321, h2⟩ := bnd_e h2
  refine rse rfl rfl rfl (yl_call rfl rfl (.cons rfl .nil) cal31 (PC.mono (numP_c (s := x317) (id := 1) (ver := w0_1) rfl p319) (R' := fun y H' => y = int x320 ∧ H' = upd _ 1 (some (rdr 87 w0_1 x321))) (fun y H' h => ⟨h.1.trans (congrArg int e320), h.2.trans (rdr_cong e321)⟩))) ?_; rintro _ _ ⟨rfl, rfl⟩
  refine tr tbk 1 (.mk ?_)
  refine sS ⟨28, 9, true, true, v15, [[int x13, int x304, int x308, int x312, int 0, int x316, int x320, int 0, .sc (.slice none 0 0)]]⟩ sh3 ?_
  refine tr tbk 8 (.mk ?_)
  refine jn h2 [2, 3, 4, 5, 6, 15, 16] [1, 2, 4] (fun (a : Bool) (k : Unit) => [(45, boo a)]) (fun a k => []) ⟨fun j322 h3 => ?_, ?_⟩
  refine tc tbk 2 (.mk ?_)
  refine sY (yv_callR rfl rfl (.cons rfl .nil) cal32 (badP_c (s := x321) (id := 1) (ver := w0_1) rfl) (.sc _)) ?_
  refine tr tbk 1 (.mk ?_)
  obtain ⟨x323, e323, h3⟩ := bnd_e h3
  refine rsas 40 (boo x323) rfl (congrArg boo e323) ?_
  refine rsas 41 (boo x323) rfl (congrArg boo e323) ?_
  cases x323
  replace h3 := cf h3
  refine tr tbk 1 (.mk ?_)
  obtain ⟨x324, e324, h3⟩ := bind_e h3
  refine sY (yv_callP rfl rfl (.cons rfl .nil) cal8 (.cons (CvL.agg (.cons (.refl _) (.cons (.refl _) (.cons (.refl _) (.cons (.refl _) (.cons (.refl _) (.cons (.refl _) (.cons (.refl _) (.cons (.refl _) (.cons (.nil _) .nil)))))))))) .nil) (d_ops_Check_c e324)) ?_
  refine nb tbk h3 fun x325 h3 => ?_
  refine tr tbk 2 (.mk ?_)
  exact lf h3 () leA
  replace h3 := ct h3
  refine tr tbk 5 (.mk ?_)
  exact lf h3 () leA
  rintro y3_1 _ h2
  cases y3_1
  replace h2 := cf h2
  refine tc tbk 5 (.mk ?_)
  refine sY (yv_buildSlice (ps := [(0, _)]) (rows := [[int x13, int x304, int x308, int x312, int 0, int x316, int x320, int 0, .sc (.slice none 0 0)]]) rfl Try.underlying22 bz28 (.cons rfl .nil) (by kernel_rfl) rfl rfl rfl) ?_
  obtain ⟨x326, e326, h2⟩ := bnd_e h2
  obtain ⟨p327, h2⟩ := asrt_e h2
  refine rse rfl rfl rfl (yl_appT (g := GOp.av) (l := y1_4) (m := [(⟨x13, x304, x308, x312, 0, x316, x320, 0, []⟩ : GOp)]) .any rfl Try.underlying22 bz28 by28 rfl rfl rfl rfl rfl rfl rfl rfl rfl rfl (Eq.symm rfl) (CvLL.list (.cons (.cons (.refl _) (.cons (.refl _) (.cons (.refl _) (.cons (.refl _) (.cons (.refl _) (.cons (.refl _) (.cons (.refl _) (.cons (.refl _) (.cons (.nil _) .nil))))))))) .nil)) (fun _ => rfl) e326 p327) ?_; rintro _ _ ⟨v328, -, rfl, rfl⟩
  refine tr tbk 3 (.mk ?_)
  exact lfE h2 v328 leA
  replace h2 := ct h2
  refine tc tbk 6 (.mk ?_)
  obtain ⟨c329, hX, hj⟩ := esc_e h2; subst hj; replace h1 := hX.trans (sel_r h1)
  obtain ⟨c330, hX, hj⟩ := esc_e h1; subst hj; replace h0 := hX.trans (sel_r h0)
  obtain rfl := nxt_e h0
  refine wR hret (rT (rT .nil)) ?_
  exact CvL.tup (.cons (.nil _) (.cons (.refl _) .nil))
  replace h2 := ct h2
  refine w_rangeD [0, 0, 2, 7, 15] (fun i => bif Nat.beq i 1 then ([2]) else bif Nat.beq i 2 then ([2]) else []) (fun i => [2]) 4 [0, 1, 2, 3] mixed (by kernel_rfl) rfl rfl rfl rfl rfl rfl rfl rfl rfl rfl rfl rfl rfl Try.underlying9 ?_
  refine eP (fun H hH => yv_callP rfl rfl .nil cal20 (CvL.refl _) forms20_c) ?_
  refine eF fo28_0 ?_
  refine eL sh3 ?_
  refine de_as 23 (int 3) rfl (congrArg int (of_decide_eq_true e19)) ?_
  refine de_pure rfl rfl rfl rfl (fun H hH => yv_indexA rfl Try.underlying46 sh45 rfl rfl (by decide) rfl) ?_
  refine ⟨_, rfl, rfl, fun b331 => ?_⟩
  refine tc tbk 13 (.mk ?_)
  refine sY (yv_to (y := boo false) (yv_eql rfl rfl rfl) (congrArg boo (by decide))) ?_
  refine tr tbk 4 (.mk ?_)
  obtain ⟨j332, h3, h2⟩ := bind_e h2
  refine rse (Out := fun y H' => (∃ (a : Unit) (k : Unit), a = j332 ∧ y = .pt 2 v15 0 5 ∧ H' = hk [(1, ⟨87, 2, true, true, w0_1, [[str x14.1, boo x14.2]]⟩), (2, ⟨28, 9, true, true, v15, [[int x13, int 0, int 0, int 0, int 0, int 0, int 0, int 0, .sc (.slice none 0 0)]]⟩), (4, ⟨28, 9, true, true, w1_1, y1_4.map GOp.av⟩)])) rfl rfl rfl (yl_call rfl rfl (.cons rfl (.cons rfl .nil)) cal23 ?_) ?_
  refine pcw (c := _) Try.func23 rfl rfl ?_; intro Q hret hnorm
  refine tc tbk 12 (.mk ?_)
  refine sY (yv_to (y := boo false) (yv_eql rfl rfl rfl) (congrArg boo (by decide))) ?_
  refine tr tbk 5 (.mk ?_)
  refine sY (yv_to (y := boo false) (yv_eql rfl rfl rfl) (congrArg boo (by decide))) ?_
  refine tr tbk 5 (.mk ?_)
  refine sY (yv_to (y := boo false) (yv_eql rfl rfl rfl) (congrArg boo (by decide))) ?_
  refine tr tbk 5 (.mk ?_)
  refine sY (yv_to (y := boo false) (yv_eql rfl rfl rfl) (congrArg boo (by decide))) ?_
  refine tr tbk 5 (.mk ?_)
  refine sY (yv_to (y := boo true) (yv_eql rfl rfl rfl) (congrArg boo (by decide))) ?_
  refine tr tbk 10 (.mk ?_)
  obtain rfl := nxt_e h3
  refine w_ret (hret _ _ (hk [(1, ⟨87, 2, true, true, w0_1, [[str x14.1, boo x14.2]]⟩), (2, ⟨28, 9, true, true, v15, [[int x13, int 0, int 0, int 0, int 0, int 0, int 0, int 0, .sc (.slice none 0 0)]]⟩), (4, ⟨28, 9, true, true, w1_1, y1_4.map GOp.av⟩)]) (.tmp rfl .nil) (HK.le ⟨rfl, rfl, rfl, trivial⟩) ?_)
  exact ⟨(), (), rfl, rfl, rfl⟩
  rintro y _ ⟨_, _, rfl, hc, rfl⟩
  subst hc
  refine tr tbk 1 (.mk ?_)
  obtain ⟨p333, h2⟩ := asrt_e h2
  obtain ⟨x334, e334, h2⟩ := bnd_e h2
  obtain ⟨x335, e335, h2⟩ := bnd_e h2
  refine rse rfl rfl rfl (yl_call rfl rfl (.cons rfl .nil) cal31 (PC.mono (numP_c (s := x14) (id := 1) (ver := w0_1) rfl p333) (R' := fun y H' => y = int x334 ∧ H' = upd _ 1 (some (rdr 87 w0_1 x335))) (fun y H' h => ⟨h.1.trans (congrArg int e334), h.2.trans (rdr_cong e335)⟩))) ?_; rintro _ _ ⟨rfl, rfl⟩
  refine tr tbk 1 (.mk ?_)
  refine sS ⟨28, 9, true, true, v15, [[int x13, int 0, int 0, int 0, int 0, int x334, int 0, int 0, .sc (.slice none 0 0)]]⟩ sh3 ?_
  refine tr tbk 15 (.mk ?_)
  refine sY (yv_to (y := boo false) (yv_eql rfl rfl rfl) (congrArg boo (by decide))) ?_
  refine tr tbk 4 (.mk ?_)
  obtain ⟨j336, h3, h2⟩ := bind_e h2
  refine rse (Out := fun y H' => (∃ (a : Unit) (k : Unit), a = j336 ∧ y = .pt 2 v15 0 7 ∧ H' = hk [(1, ⟨87, 2, true, true, w0_1, [[str x335.1, boo x335.2]]⟩), (2, ⟨28, 9, true, true, v15, [[int x13, int 0, int 0, int 0, int 0, int x334, int 0, int 0, .sc (.slice none 0 0)]]⟩), (4, ⟨28, 9, true, true, w1_1, y1_4.map GOp.av⟩)])) rfl rfl rfl (yl_call rfl rfl (.cons rfl (.cons rfl .nil)) cal23 ?_) ?_
  refine pcw (c := _) Try.func23 rfl rfl ?_; intro Q hret hnorm
  refine tc tbk 12 (.mk ?_)
  refine sY (yv_to (y := boo false) (yv_eql rfl rfl rfl) (congrArg boo (by decide))) ?_
  refine tr tbk 5 (.mk ?_)
  refine sY (yv_to (y := boo false) (yv_eql rfl rfl rfl) (congrArg boo (by decide))) ?_
  refine tr tbk 5 (.mk ?_)
  refine sY (yv_to (y := boo false) (yv_eql rfl rfl rfl) (congrArg boo (by decide))) ?_
  refine tr tbk 5 (.mk ?_)
  refine sY (yv_to (y := boo false) (yv_eql rfl rfl rfl) (congrArg boo (by decide))) ?_
  refine tr tbk 5 (.mk ?_)
  refine sY (yv_to (y := boo false) (yv_eql rfl rfl rfl) (congrArg boo (by decide))) ?_
  refine tr tbk 5 (.mk ?_)
  refine sY (yv_to (y := boo false) (yv_eql rfl rfl rfl) (congrArg boo (by decide))) ?_
  refine tr tbk 12 (.mk ?_)
  obtain rfl := nxt_e h3
  refine w_ret (hret _ _ (hk [(1, ⟨87, 2, true, true, w0_1, [[str x335.1, boo x335.2]]⟩), (2, ⟨28, 9, true, true, v15, [[int x13, int 0, int 0, int 0, int 0, int x334, int 0, int 0, .sc (.slice none 0 0)]]⟩), (4, ⟨28, 9, true, true, w1_1, y1_4.map GOp.av⟩)]) (.tmp rfl .nil) (HK.le ⟨rfl, rfl, rfl, trivial⟩) ?_)
  exact ⟨(), (), rfl, rfl, rfl⟩
  rintro y _ ⟨_, _, rfl, hc, rfl⟩
  subst hc
  refine tr tbk 1 (.mk ?_)
  obtain ⟨p337, h2⟩ := asrt_e h2
  obtain ⟨x338, e338, h2⟩ := bnd_e h2
  obtain ⟨x339, e339, h2⟩ := bnd_e h2
  refine rse rfl rfl rfl (yl_call rfl rfl (.cons rfl .nil) cal31 (PC.mono (numP_c (s := x335) (id := 1) (ver := w0_1) rfl p337) (R' := fun y H' => y = int x338 ∧ H' = upd _ 1 (some (rdr 87 w0_1 x339))) (fun y H' h => ⟨h.1.trans (congrArg int e338), h.2.trans (rdr_cong e339)⟩))) ?_; rintro _ _ ⟨rfl, rfl⟩
  refine tr tbk 1 (.mk ?_)
  refine sS ⟨28, 9, true, true, v15, [[int x13, int 0, int 0, int 0, int 0, int x334, int 0, int x338, .sc (.slice none 0 0)]]⟩ sh3 ?_
  refine tr tbk 8 (.mk ?_)
  refine jn h2 [2, 3, 4, 5, 6, 15, 16] [1, 2, 4] (fun (a : Bool) (k : Unit) => [(45, boo a)]) (fun a k => []) ⟨fun j340 h3 => ?_, ?_⟩
  refine tc tbk 2 (.mk ?_)
  refine sY (yv_callR rfl rfl (.cons rfl .nil) cal32 (badP_c (s := x339) (id := 1) (ver := w0_1) rfl) (.sc _)) ?_
  refine tr tbk 1 (.mk ?_)
  obtain ⟨x341, e341, h3⟩ := bnd_e h3
  refine rsas 40 (boo x341) rfl (congrArg boo e341) ?_
  refine rsas 41 (boo x341) rfl (congrArg boo e341) ?_
  cases x341
  replace h3 := cf h3
  refine tr tbk 1 (.mk ?_)
  obtain ⟨x342, e342, h3⟩ := bind_e h3
  refine sY (yv_callP rfl rfl (.cons rfl .nil) cal8 (.cons (CvL.agg (.cons (.refl _) (.cons (.refl _) (.cons (.refl _) (.cons (.refl _) (.cons (.refl _) (.cons (.refl _) (.cons (.refl _) (.cons (.refl _) (.cons (.nil _) .nil)))))))))) .nil) (d_ops_Check_c e342)) ?_
  refine nb tbk h3 fun x343 h3 => ?_
  refine tr tbk 2 (.mk ?_)
  exact lf h3 () leA
  replace h3 := ct h3
  refine tr tbk 5 (.mk ?_)
  exact lf h3 () leA
  rintro y3_1 _ h2
  cases y3_1
  replace h2 := cf h2
  refine tc tbk 5 (.mk ?_)
  refine sY (yv_buildSlice (ps := [(0, _)]) (rows := [[int x13, int 0, int 0, int 0, int 0, int x334, int 0, int x338, .sc (.slice none 0 0)]]) rfl Try.underlying22 bz28 (.cons rfl .nil) (by kernel_rfl) rfl rfl rfl) ?_
  obtain ⟨x344, e344, h2⟩ := bnd_e h2
  obtain ⟨p345, h2⟩ := asrt_e h2
  refine rse rfl rfl rfl (yl_appT (g := GOp.av) (l := y1_4) (m := [(⟨x13, 0, 0, 0, 0, x334, 0, x338, []⟩ : GOp)]) .any rfl Try.underlying22 bz28 by28 rfl rfl rfl rfl rfl rfl rfl rfl rfl rfl (Eq.symm rfl) (CvLL.list (.cons (.cons (.refl _) (.cons (.refl _) (.cons (.refl _) (.cons (.refl _) (.cons (.refl _) (.cons (.refl _) (.cons (.refl _) (.cons (.refl _) (.cons (.nil _) .nil))))))))) .nil)) (fun _ => rfl) e344 p345) ?_; rintro _ _ ⟨v346, -, rfl, rfl⟩
  refine tr tbk 3 (.mk ?_)
  exact lfE h2 v346 leA
  replace h2 := ct h2
  refine tc tbk 6 (.mk ?_)
  obtain ⟨c347, hX, hj⟩ := esc_e h2; subst hj; replace h1 := hX.trans (sel_r h1)
  obtain ⟨c348, hX, hj⟩ := esc_e h1; subst hj; replace h0 := hX.trans (sel_r h0)
  obtain rfl := nxt_e h0
  refine wR hret (rT (rT .nil)) ?_
  exact CvL.tup (.cons (.nil _) (.cons (.refl _) .nil))
  replace h2 := ct h2
  refine w_rangeD [0, 0, 2, 7, 15] (fun i => bif Nat.beq i 1 then ([2]) else bif Nat.beq i 2 then ([2]) else []) (fun i => [2]) 4 [0, 1, 2, 3] mixed (by kernel_rfl) rfl rfl rfl rfl rfl rfl rfl rfl rfl rfl rfl rfl rfl Try.underlying9 ?_
  refine eP (fun H hH => yv_callP rfl rfl .nil cal20 (CvL.refl _) forms20_c) ?_
  refine eF fo28_0 ?_
  refine eL sh3 ?_
  refine de_as 23 (int 2) rfl (congrArg int (of_decide_eq_true e18)) ?_
  refine de_pure rfl rfl rfl rfl (fun H hH => yv_indexA rfl Try.underlying46 sh45 rfl rfl (by decide) rfl) ?_
  refine ⟨_, rfl, rfl, fun b349 => ?_⟩
  refine tc tbk 13 (.mk ?_)
  refine sY (yv_to (y := boo false) (yv_eql rfl rfl rfl) (congrArg boo (by decide))) ?_
  refine tr tbk 4 (.mk ?_)
  obtain ⟨j350, h3, h2⟩ := bind_e h2
  refine rse (Out := fun y H' => (∃ (a : Unit) (k : Unit), a = j350 ∧ y = .pt 2 v15 0 5 ∧ H' = hk [(1, ⟨87, 2, true, true, w0_1, [[str x14.1, boo x14.2]]⟩), (2, ⟨28, 9, true, true, v15, [[int x13, int 0, int 0, int 0, int 0, int 0, int 0, int 0, .sc (.slice none 0 0)]]⟩), (4, ⟨28, 9, true, true, w1_1, y1_4.map GOp.av⟩)])) rfl rfl rfl (yl_call rfl rfl (.cons rfl (.cons rfl .nil)) cal23 ?_) ?_
  refine pcw (c := _) Try.func23 rfl rfl ?_; intro Q hret hnorm
  refine tc tbk 12 (.mk ?_)
  refine sY (yv_to (y := boo false) (yv_eql rfl rfl rfl) (congrArg boo (by decide))) ?_
  refine tr tbk 5 (.mk ?_)
  refine sY (yv_to (y := boo false) (yv_eql rfl rfl rfl) (congrArg boo (by decide))) ?_
  refine tr tbk 5 (.mk ?_)
  refine sY (yv_to (y := boo false) (yv_eql rfl rfl rfl) (congrArg boo (by decide))) ?_
  refine tr tbk 5 (.mk ?_)
  refine sY (yv_to (y := boo false) (yv_eql rfl rfl rfl) (congrArg boo (by decide))) ?_
  refine tr tbk 5 (.mk ?_)
  refine sY (yv_to (y := boo true) (yv_eql rfl rfl rfl) (congrArg boo (by decide))) ?_
  refine tr tbk 10 (.mk ?_)
  obtain rfl := nxt_e h3
  refine w_ret (hret _ _ (hk [(1, ⟨87, 2, true, true, w0_1, [[str x14.1, boo x14.2]]⟩), (2, ⟨28, 9, true, true, v15, [[int x13, int 0, int 0, int 0, int 0, int 0, int 0, int 0, .sc (.slice none 0 0)]]⟩), (4, ⟨28, 9, true, true, w1_1, y1_4.map GOp.av⟩)]) (.tmp rfl .nil) (HK.le ⟨rfl, rfl, rfl, trivial⟩) ?_)
  exact ⟨(), (), rfl, rfl, rfl⟩
  rintro y _ ⟨_, _, rfl, hc, rfl⟩
  subst hc
  refine tr tbk 1 (.mk ?_)
  obtain ⟨p351, h2⟩ := asrt_e h2
  obtain ⟨x352, e352, h2⟩ := bnd_e h2
  obtain ⟨x353, e353, h2⟩ := bnd_e h2
  refine rse rfl rfl rfl (yl_call rfl rfl (.cons rfl .nil) cal31 (PC.mono (numP_c (s := x14) (id := 1) (ver := w0_1) rfl p351) (R' := fun y H' => y = int x352 ∧ H' = upd _ 1 (some (rdr 87 w0_1 x353))) (fun y H' h => ⟨h.1.trans (congrArg int e352), h.2.trans (rdr_cong e353)⟩))) ?_; rintro _ _ ⟨rfl, rfl⟩
  refine tr tbk 1 (.mk ?_)
  refine sS ⟨28, 9, true, true, v15, [[int x13, int 0, int 0, int 0, int 0, int x352, int 0, int 0, .sc (.slice none 0 0)]]⟩ sh3 ?_
  refine tr tbk 15 (.mk ?_)
  refine sY (yv_to (y := boo false) (yv_eql rfl rfl rfl) (congrArg boo (by decide))) ?_
  refine tr tbk 4 (.mk ?_)
  obtain ⟨j354, h3, h2⟩ := bind_e h2
  refine rse (Out := fun y H' => (∃ (a : Unit) (k : Unit), a = j354 ∧ y = .pt 2 v15 0 6 ∧ H' = hk [(1, ⟨87, 2, true, true, w0_1, [[str x353.1, boo x353.2]]⟩), (2, ⟨28, 9, true, true, v15, [[int x13, int 0, int 0, int 0, int 0, int x352, int 0, int 0, .sc (.slice none 0 0)]]⟩), (4, ⟨28, 9, true, true, w1_1, y1_4.map GOp.av⟩)])) rfl rfl rfl (yl_call rfl rfl (.cons rfl (.cons rfl .nil)) cal23 ?_) ?_
  refine pcw (c := _) Try.func23 rfl rfl ?_; intro Q hret hnorm
  refine tc tbk 12 (.mk ?_)
  refine sY (yv_to (y := boo false) (yv_eql rfl rfl rfl) (congrArg boo (by decide))) ?_
  refine tr tbk 5 (.mk ?_)
  refine sY (yv_to (y := boo false) (yv_eql rfl rfl rfl) (congrArg boo (by decide))) ?_
  refine tr tbk 5 (.mk ?_)
  refine sY (yv_to (y := boo false) (yv_eql rfl rfl rfl) (congrArg boo (by decide))) ?_
  refine tr tbk 5 (.mk ?_)
  refine sY (yv_to (y := boo false) (yv_eql rfl rfl rfl) (congrArg boo (by decide))) ?_
  refine tr tbk 5 (.mk ?_)
  refine sY (yv_to (y := boo false) (yv_eql rfl rfl rfl) (congrArg boo (by decide))) ?_
  refine tr tbk 5 (.mk ?_)
  refine sY (yv_to (y := boo true) (yv_eql rfl rfl rfl) (congrArg boo (by decide))) ?_
  refine tr tbk 10 (.mk ?_)
  obtain rfl := nxt_e h3
  refine w_ret (hret _ _ (hk [(1, ⟨87, 2, true, true, w0_1, [[str x353.1, boo x353.2]]⟩), (2, ⟨28, 9, true, true, v15, [[int x13, int 0, int 0, int 0, int 0, int x352, int 0, int 0, .sc (.slice none 0 0)]]⟩), (4, ⟨28, 9, true, true, w1_1, y1_4.map GOp.av⟩)]) (.tmp rfl .nil) (HK.le ⟨rfl, rfl, rfl, trivial⟩) ?_)
  exact ⟨(), (), rfl, rfl, rfl⟩
  rintro y _ ⟨_, _, rfl, hc, rfl⟩
  subst hc
  refine tr tbk 1 (.mk ?_)
  obtain ⟨p355, h2⟩ := asrt_e h2
  obtain ⟨x356, e356, h2⟩ := bnd_e h2
  obtain ⟨x357, e357, h2⟩ := bnd_e h2
  refine rse rfl rfl rfl (yl_call rfl rfl (.cons rfl .nil) cal31 (PC.mono (numP_c (s := x353) (id := 1) (ver := w0_1) rfl p355) (R' := fun y H' => y = int x356 ∧ H' = upd _ 1 (some (rdr 87 w0_1 x357))) (fun y H' h => ⟨h.1.trans (congrArg int e356), h.2.trans (rdr_cong e357)⟩))) ?_; rintro _ _ ⟨rfl, rfl⟩
  refine tr tbk 1 (.mk ?_)
  refine sS ⟨28, 9, true, true, v15, [[int x13, int 0, int 0, int 0, int 0, int x352, int x356, int 0, .sc (.slice none 0 0)]]⟩ sh3 ?_
  refine tr tbk 15 (.mk ?_)
  refine sY (yv_to (y := boo false) (yv_eql rfl rfl rfl) (congrArg boo (by decide))) ?_
  refine tr tbk 4 (.mk ?_)
  obtain ⟨j358, h3, h2⟩ := bind_e h2
  refine rse (Out := fun y H' => (∃ (a : Unit) (k : Unit), a = j358 ∧ y = .pt 2 v15 0 7 ∧ H' = hk [(1, ⟨87, 2, true, true, w0_1, [[str x357.1, boo x357.2]]⟩), (2, ⟨28, 9, true, true, v15, [[int x13, int 0, int 0, int 0, int 0, int x352, int x356, int 0, .sc (.slice none 0 0)]]⟩), (4, ⟨28, 9, true, true, w1_1, y1_4.map GOp.av⟩)])) rfl rfl rfl (yl_call rfl rfl (.cons rfl (.cons rfl .nil)) cal23 ?_) ?_
  refine pcw (c := _) Try.func23 rfl rfl ?_; intro Q hret hnorm
  refine tc tbk 12 (.mk ?_)
  refine sY (yv_to (y := boo false) (yv_eql rfl rfl rfl) (congrArg boo (by decide))) ?_
  refine tr tbk 5 (.mk ?_)
  refine sY (yv_to (y := boo false) (yv_eql rfl rfl rfl) (congrArg boo (by decide))) ?_
  refine tr tbk 5 (.mk ?_)
  refine sY (yv_to (y := boo false) (yv_eql rfl rfl rfl) (congrArg boo (by decide))) ?_
  refine tr tbk 5 (.mk ?_)
  refine sY (yv_to (y := boo false) (yv_eql rfl rfl rfl) (congrArg boo (by decide))) ?_
  refine tr tbk 5 (.mk ?_)
  refine sY (yv_to (y := boo false) (yv_eql rfl rfl rfl) (congrArg boo (by decide))) ?_
  refine tr tbk 5 (.mk ?_)
  refine sY (yv_to (y := boo false) (yv_eql rfl rfl rfl) (congrArg boo (by decide))) ?_
  refine tr tbk 12 (.mk ?_)
  obtain rfl := nxt_e h3
  refine w_ret (hret _ _ (hk [(1, ⟨87, 2, true, true, w0_1, [[str x357.1, boo x357.2]]⟩), (2, ⟨28, 9, true, true, v15, [[int x13, int 0, int 0, int 0, int 0, int x352, int x356, int 0, .sc (.slice none 0 0)]]⟩), (4, ⟨28, 9, true, true, w1_1, y1_4.map GOp.av⟩)]) (.tmp rfl .nil) (HK.le ⟨rfl, rfl, rfl, trivial⟩) ?_)
  exact ⟨(), (), rfl, rfl, rfl⟩
  rintro y _ ⟨_, _, rfl, hc, rfl⟩
  subst hc
  refine tr tbk 1 (.mk ?_)
  obtain ⟨p359, h2⟩ := asrt_e h2
  obtain ⟨x360, e360, h2⟩ := bnd_e h2
  obtain ⟨x361, e361, h2⟩ := bnd_e h2
  refine rse rfl rfl rfl (yl_call rfl rfl (.cons rfl .nil) cal31 (PC.mono (numP_c (s := x357) (id := 1) (ver := w0_1) rfl p359) (R' := fun y H' => y = int x360 ∧ H' = upd _ 1 (some (rdr 87 w0_1 x361))) (fun y H' h => ⟨h.1.trans (congrArg int e360), h.2.trans (rdr_cong e361)⟩))) ?_; rintro _ _ ⟨rfl, rfl⟩
  refine tr tbk 1 (.mk ?_)
  refine sS ⟨28, 9, true, true, v15, [[int x13, int 0, int 0, int 0, int 0, int x352, int x356, int x360, .sc (.slice none 0 0)]]⟩ sh3 ?_
  refine tr tbk 8 (.mk ?_)
  refine jn h2 [2, 3, 4, 5, 6, 15, 16] [1, 2, 4] (fun (a : Bool) (k : Unit) => [(45, boo a)]) (fun a k => []) ⟨fun j362 h3 => ?_, ?_⟩
  refine tc tbk 2 (.mk ?_)
  refine sY (yv_callR rfl rfl (.cons rfl .nil) cal32 (badP_c (s := x361) (id := 1) (ver := w0_1) rfl) (.sc _)) ?_
  refine tr tbk 1 (.mk ?_)
  obtain ⟨x363, e363, h3⟩ := bnd_e h3
  refine rsas 40 (boo x363) rfl (congrArg boo e363) ?_
  refine rsas 41 (boo x363) rfl (congrArg boo e363) ?_
  cases x363
  replace h3 := cf h3
  refine tr tbk 1 (.mk ?_)
  obtain ⟨x364, e364, h3⟩ := bind_e h3
  refine sY (yv_callP rfl rfl (.cons rfl .nil) cal8 (.cons (CvL.agg (.cons (.refl _) (.cons (.refl _) (.cons (.refl _) (.cons (.refl _) (.cons (.refl _) (.cons (.refl _) (.cons (.refl _) (.cons (.refl _) (.cons (.nil _) .nil)))))))))) .nil) (d_ops_Check_c e364)) ?_
  refine nb tbk h3 fun x365 h3 => ?_
  refine tr tbk 2 (.mk ?_)
  exact lf h3 () leA
  replace h3 := ct h3
  refine tr tbk 5 (.mk ?_)
  exact lf h3 () leA
  rintro y3_1 _ h2
  cases y3_1
  replace h2 := cf h2
  refine tc tbk 5 (.mk ?_)
  refine sY (yv_buildSlice (ps := [(0, _)]) (rows := [[int x13, int 0, int 0, int 0, int 0, int x352, int x356, int x360, .sc (.slice none 0 0)]]) rfl Try.underlying22 bz28 (.cons rfl .nil) (by kernel_rfl) rfl rfl rfl) ?_
  obtain ⟨x366, e366, h2⟩ := bnd_e h2
  obtain ⟨p367, h2⟩ := asrt_e h2
  refine rse rfl rfl rfl (yl_appT (g := GOp.av) (l := y1_4) (m := [(⟨x13, 0, 0, 0, 0, x352, x356, x360, []⟩ : GOp)]) .any rfl Try.underlying22 bz28 by28 rfl rfl rfl rfl rfl rfl rfl rfl rfl rfl (Eq.symm rfl) (CvLL.list (.cons (.cons (.refl _) (.cons (.refl _) (.cons (.refl _) (.cons (.refl _) (.cons (.refl _) (.cons (.refl _) (.cons (.refl _) (.cons (.refl _) (.cons (.nil _) .nil))))))))) .nil)) (fun _ => rfl) e366 p367) ?_; rintro _ _ ⟨v368, -, rfl, rfl⟩
  refine tr tbk 3 (.mk ?_)
  exact lfE h2 v368 leA
  replace h2 := ct h2
  refine tc tbk 6 (.mk ?_)
  obtain ⟨c369, hX, hj⟩ := esc_e h2; subst hj; replace h1 := hX.trans (sel_r h1)
  obtain ⟨c370, hX, hj⟩ := esc_e h1; subst hj; replace h0 := hX.trans (sel_r h0)
  obtain rfl := nxt_e h0
  refine wR hret (rT (rT .nil)) ?_
  exact CvL.tup (.cons (.nil _) (.cons (.refl _) .nil))
  replace h2 := ct h2
  refine w_rangeD [0, 0, 2, 7, 15] (fun i => bif Nat.beq i 1 then ([2]) else bif Nat.beq i 2 then ([2]) else []) (fun i => [2]) 4 [0, 1, 2, 3] mixed (by kernel_rfl) rfl rfl rfl rfl rfl rfl rfl rfl rfl rfl rfl rfl rfl Try.underlying9 ?_
  refine eP (fun H hH => yv_callP rfl rfl .nil cal20 (CvL.refl _) forms20_c) ?_
  refine eF fo28_0 ?_
  refine eL sh3 ?_
  refine de_as 23 (int 1) rfl (congrArg int (of_decide_eq_true e17)) ?_
  refine de_pure rfl rfl rfl rfl (fun H hH => yv_indexA rfl Try.underlying46 sh45 rfl rfl (by decide) rfl) ?_
  refine ⟨_, rfl, rfl, fun b371 => ?_⟩
  refine tc tbk 13 (.mk ?_)
  refine sY (yv_to (y := boo false) (yv_eql rfl rfl rfl) (congrArg boo (by decide))) ?_
  refine tr tbk 4 (.mk ?_)
  obtain ⟨j372, h3, h2⟩ := bind_e h2
  refine rse (Out := fun y H' => (∃ (a : Unit) (k : Unit), a = j372 ∧ y = .pt 2 v15 0 1 ∧ H' = hk [(1, ⟨87, 2, true, true, w0_1, [[str x14.1, boo x14.2]]⟩), (2, ⟨28, 9, true, true, v15, [[int x13, int 0, int 0, int 0, int 0, int 0, int 0, int 0, .sc (.slice none 0 0)]]⟩), (4, ⟨28, 9, true, true, w1_1, y1_4.map GOp.av⟩)])) rfl rfl rfl (yl_call rfl rfl (.cons rfl (.cons rfl .nil)) cal23 ?_) ?_
  refine pcw (c := _) Try.func23 rfl rfl ?_; intro Q hret hnorm
  refine tc tbk 12 (.mk ?_)
  refine sY (yv_to (y := boo true) (yv_eql rfl rfl rfl) (congrArg boo (by decide))) ?_
  refine tr tbk 10 (.mk ?_)
  obtain rfl := nxt_e h3
  refine w_ret (hret _ _ (hk [(1, ⟨87, 2, true, true, w0_1, [[str x14.1, boo x14.2]]⟩), (2, ⟨28, 9, true, true, v15, [[int x13, int 0, int 0, int 0, int 0, int 0, int 0, int 0, .sc (.slice none 0 0)]]⟩), (4, ⟨28, 9, true, true, w1_1, y1_4.map GOp.av⟩)]) (.tmp rfl .nil) (HK.le ⟨rfl, rfl, rfl, trivial⟩) ?_)
  exact ⟨(), (), rfl, rfl, rfl⟩
  rintro y _ ⟨_, _, rfl, hc, rfl⟩
  subst hc
  refine tr tbk 1 (.mk ?_)
  obtain ⟨p373, h2⟩ := asrt_e h2
  obtain ⟨x374, e374, h2⟩ := bnd_e h2
  obtain ⟨x375, e375, h2⟩ := bnd_e h2
  refine rse rfl rfl rfl (yl_call rfl rfl (.cons rfl .nil) cal31 (PC.mono (numP_c (s := x14) (id := 1) (ver := w0_1) rfl p373) (R' := fun y H' => y = int x374 ∧ H' = upd _ 1 (some (rdr 87 w0_1 x375))) (fun y H' h => ⟨h.1.trans (congrArg int e374), h.2.trans (rdr_cong e375)⟩))) ?_; rintro _ _ ⟨rfl, rfl⟩
  refine tr tbk 1 (.mk ?_)
  refine sS ⟨28, 9, true, true, v15, [[int x13, int x374, int 0, int 0, int 0, int 0, int 0, int 0, .sc (.slice none 0 0)]]⟩ sh3 ?_
  refine tr tbk 15 (.mk ?_)
  refine sY (yv_to (y := boo false) (yv_eql rfl rfl rfl) (congrArg boo (by decide))) ?_
  refine tr tbk 4 (.mk ?_)
  obtain ⟨j376, h3, h2⟩ := bind_e h2
  refine rse (Out := fun y H' => (∃ (a : Unit) (k : Unit), a = j376 ∧ y = .pt 2 v15 0 2 ∧ H' = hk [(1, ⟨87, 2, true, true, w0_1, [[str x375.1, boo x375.2]]⟩), (2, ⟨28, 9, true, true, v15, [[int x13, int x374, int 0, int 0, int 0, int 0, int 0, int 0, .sc (.slice none 0 0)]]⟩), (4, ⟨28, 9, true, true, w1_1, y1_4.map GOp.av⟩)])) rfl rfl rfl (yl_call rfl rfl (.cons rfl (.cons rfl .nil)) cal23 ?_) ?_
  refine pcw (c := _) Try.func23 rfl rfl ?_; intro Q hret hnorm
  refine tc tbk 12 (.mk ?_)
  refine sY (yv_to (y := boo false) (yv_eql rfl rfl rfl) (congrArg boo (by decide))) ?_
  refine tr tbk 5 (.mk ?_)
  refine sY (yv_to (y := boo true) (yv_eql rfl rfl rfl) (congrArg boo (by decide))) ?_
  refine tr tbk 10 (.mk ?_)
  obtain rfl := nxt_e h3
  refine w_ret (hret _ _ (hk [(1, ⟨87, 2, true, true, w0_1, [[str x375.1, boo x375.2]]⟩), (2, ⟨28, 9, true, true, v15, [[int x13, int x374, int 0, int 0, int 0, int 0, int 0, int 0, .sc (.slice none 0 0)]]⟩), (4, ⟨28, 9, true, true, w1_1, y1_4.map GOp.av⟩)]) (.tmp rfl .nil) (HK.le ⟨rfl, rfl, rfl, trivial⟩) ?_)
  exact ⟨(), (), rfl, rfl, rfl⟩
  rintro y _ ⟨_, _, rfl, hc, rfl⟩
  subst hc
  refine tr tbk 1 (.mk ?_)
  obtain ⟨p377, h2⟩ := asrt_e h2
  obtain ⟨x378, e378, h2⟩ := bnd_e h2
  obtain ⟨x379, e379, h2⟩ := bnd_e h2
  refine rse rfl rfl rfl (yl_call rfl rfl (.cons rfl .nil) cal31 (PC.mono (numP_c (s := x375) (id := 1) (ver := w0_1) rfl p377) (R' := fun y H' => y = int x378 ∧ H' = upd _ 1 (some (rdr 87 w0_1 x379))) (fun y H' h => ⟨h.1.trans (congrArg int e378), h.2.trans (rdr_cong e379)⟩))) ?_; rintro _ _ ⟨rfl, rfl⟩
  refine tr tbk 1 (.mk ?_)
  refine sS ⟨28, 9, true, true, v15, [[int x13, int x374, int x378, int 0, int 0, int 0, int 0, int 0, .sc (.slice none 0 0)]]⟩ sh3 ?_
  refine tr tbk 15 (.mk ?_)
  refine sY (yv_to (y := boo false) (yv_eql rfl rfl rfl) (congrArg boo (by decide))) ?_
  refine tr tbk 4 (.mk ?_)
  obtain ⟨j380, h3, h2⟩ := bind_e h2
  refine rse (Out := fun y H' => (∃ (a : Unit) (k : Unit), a = j380 ∧ y = .pt 2 v15 0 3 ∧ H' = hk [(1, ⟨87, 2, true, true, w0_1, [[str x379.1, boo x379.2]]⟩), (2, ⟨28, 9, true, true, v15, [[int x13, int x374, int x378, int 0, int 0, int 0, int 0, int 0, .sc (.slice none 0 0)]]⟩), (4, ⟨28, 9, true, true, w1_1, y1_4.map GOp.av⟩)])) rfl rfl rfl (yl_call rfl rfl (.cons rfl (.cons rfl .nil)) cal23 ?_) ?_
  refine pcw (c := _) Try.func23 rfl rfl ?_; intro Q hret hnorm
  refine tc tbk 12 (.mk ?_)
  refine sY (yv_to (y := boo false) (yv_eql rfl rfl rfl) (congrArg boo (by decide))) ?_
  refine tr tbk 5 (.mk ?_)
  refine sY (yv_to (y := boo false) (yv_eql rfl rfl rfl) (congrArg boo (by decide))) ?_
  refine tr tbk 5 (.mk ?_)
  refine sY (yv_to (y := boo true) (yv_eql rfl rfl rfl) (congrArg boo (by decide))) ?_
  refine tr tbk 10 (.mk ?_)
  obtain rfl := nxt_e h3
  refine w_ret (hret _ _ (hk [(1, ⟨87, 2, true, true, w0_1, [[str x379.1, boo x379.2]]⟩), (2, ⟨28, 9, true, true, v15, [[int x13, int x374, int x378, int 0, int 0, int 0, int 0, int 0, .sc (.slice none 0 0)]]⟩), (4, ⟨28, 9, true, true, w1_1, y1_4.map GOp.av⟩)]) (.tmp rfl .nil) (HK.le ⟨rfl, rfl, rfl, trivial⟩) ?_)
  exact ⟨(), (), rfl, rfl, rfl⟩
  rintro y _ ⟨_, _, rfl, hc, rfl⟩
  subst hc
  refine tr tbk 1 (.mk ?_)
  obtain ⟨p381, h2⟩ := asrt_e h2
  obtain ⟨x382, e382, h2⟩ := bnd_e h2
  obtain ⟨x383, e383, h2⟩ := bnd_e h2
  refine rse rfl rfl rfl (yl_call rfl rfl (.cons rfl .nil) cal31 (PC.mono (numP_c (s := x379) (id := 1) (ver := w0_1) rfl p381) (R' := fun y H' => y = int x382 ∧ H' = upd _ 1 (some (rdr 87 w0_1 x383))) (fun y H' h => ⟨h.1.trans (congrArg int e382), h.2.trans (rdr_cong e383)⟩))) ?_; rintro _ _ ⟨rfl, rfl⟩
  refine tr tbk 1 (.mk ?_)
  refine sS ⟨28, 9, true, true, v15, [[int x13, int x374, int x378, int x382, int 0, int 0, int 0, int 0, .sc (.slice none 0 0)]]⟩ sh3 ?_
  refine tr tbk 15 (.mk ?_)
  refine sY (yv_to (y := boo false) (yv_eql rfl rfl rfl) (congrArg boo (by decide))) ?_
  refine tr tbk 4 (.mk ?_)
  obtain ⟨j384, h3, h2⟩ := bind_e h2
  refine rse (Out := fun y H' => (∃ (a : Unit) (k : Unit), a = j384 ∧ y = .pt 2 v15 0 5 ∧ H' = hk [(1, ⟨87, 2, true, true, w0_1, [[str x383.1, boo x383.2]]⟩), (2, ⟨28, 9, true, true, v15, [[int x13, int x374, int x378, int x382, int 0, int 0, int 0, int 0, .sc (.slice none 0 0)]]⟩), (4, ⟨28, 9, true, true, w1_1, y1_4.map GOp.av⟩)])) rfl rfl rfl (yl_call rfl rfl (.cons rfl (.cons rfl .nil)) cal23 ?_) ?_
  refine pcw (c := _) Try.func23 rfl rfl ?_; intro Q hret hnorm
  refine tc tbk 12 (.mk ?_)
  refine sY (yv_to (y := boo false) (yv_eql rfl rfl rfl) (congrArg boo (by decide))) ?_
  refine tr tbk 5 (.mk ?_)
  refine sY (yv_to (y := boo false) (yv_eql rfl rfl rfl) (congrArg boo (by decide))) ?_
  refine tr tbk 5 (.mk ?_)
  refine sY (yv_to (y := boo false) (yv_eql rfl rfl rfl) (congrArg boo (by decide))) ?_
  refine tr tbk 5 (.mk ?_)
  refine sY (yv_to (y := boo false) (yv_eql rfl rfl rfl) (congrArg boo (by decide))) ?_
  refine tr tbk 5 (.mk ?_)
  refine sY (yv_to (y := boo true) (yv_eql rfl rfl rfl) (congrArg boo (by decide))) ?_
  refine tr tbk 10 (.mk ?_)
  obtain rfl := nxt_e h3
  refine w_ret (hret _ _ (hk [(1, ⟨87, 2, true, true, w0_1, [[str x383.1, boo x383.2]]⟩), (2, ⟨28, 9, true, true, v15, [[int x13, int x374, int x378, int x382, int 0, int 0, int 0, int 0, .sc (.slice none 0 0)]]⟩), (4, ⟨28, 9, true, true, w1_1, y1_4.map GOp.av⟩)]) (.tmp rfl .nil) (HK.le ⟨rfl, rfl, rfl, trivial⟩) ?_)
  exact ⟨(), (), rfl, rfl, rfl⟩
  rintro y _ ⟨_, _, rfl, hc, rfl⟩
  subst hc
  refine tr tbk 1 (.mk ?_)
  obtain ⟨p385, h2⟩ := asrt_e h2
  obtain ⟨x386, e386, h2⟩ := bnd_e h2
  obtain ⟨x387, e387, h2⟩ := bnd_e h2
  refine rse rfl rfl rfl (yl_call rfl rfl (.cons rfl .nil) cal31 (PC.mono (numP_c (s := x383) (id := 1) (ver := w0_1) rfl p385) (R' := fun y H' => y = int x386 ∧ H' = upd _ 1 (some (rdr 87 w0_1 x387))) (fun y H' h => ⟨h.1.trans (congrArg int e386), h.2.trans (rdr_cong e387)⟩))) ?_; rintro _ _ ⟨rfl, rfl⟩
  refine tr tbk 1 (.mk ?_)
  refine sS ⟨28, 9, true, true, v15, [[int x13, int x374, int x378, int x382, int 0, int x386, int 0, int 0, .sc (.slice none 0 0)]]⟩ sh3 ?_
  refine tr tbk 15 (.mk ?_)
  refine sY (yv_to (y := boo false) (yv_eql rfl rfl rfl) (congrArg boo (by decide))) ?_
  refine tr tbk 4 (.mk ?_)
  obtain ⟨j388, h3, h2⟩ := bind_e h2
  refine rse (Out := fun y H' => (∃ (a : Unit) (k : Unit), a = j388 ∧ y = .pt 2 v15 0 6 ∧ H' = hk [(1, ⟨87, 2, true, true, w0_1, [[str x387.1, boo x387.2]]⟩), (2, ⟨28, 9, true, true, v15, [[int x13, int x374, int x378, int x382, int 0, int x386, int 0, int 0, .sc (.slice none 0 0)]]⟩), (4, ⟨28, 9, true, true, w1_1, y1_4.map GOp.av⟩)])) rfl rfl rfl (yl_call rfl rfl (.cons rfl (.cons rfl .nil)) cal23 ?_) ?_
  refine pcw (c := _) Try.func23 rfl rfl ?_; intro Q hret hnorm
  refine tc tbk 12 (.mk ?_)
  refine sY (yv_to (y := boo false) (yv_eql rfl rfl rfl) (congrArg boo (by decide))) ?_
  refine tr tbk 5 (.mk ?_)
  refine sY (yv_to (y := boo false) (yv_eql rfl rfl rfl) (congrArg boo (by decide))) ?_
  refine tr tbk 5 (.mk ?_)
  refine sY (yv_to (y := boo false) (yv_eql rfl rfl rfl) (congrArg boo (by decide))) ?_
  refine tr tbk 5 (.mk ?_)
  refine sY (yv_to (y := boo false) (yv_eql rfl rfl rfl) (congrArg boo (by decide))) ?_
  refine tr tbk 5 (.mk ?_)
  refine sY (yv_to (y := boo false) (yv_eql rfl rfl rfl) (congrArg boo (by decide))) ?_
  refine tr tbk 5 (.mk ?_)
  refine sY (yv_to (y := boo true) (yv_eql rfl rfl rfl) (congrArg boo (by decide))) ?_
  refine tr tbk 10 (.mk ?_)
  obtain rfl := nxt_e h3
  refine w_ret (hret _ _ (hk [(1, ⟨87, 2, true, true, w0_1, [[str x387.1, boo x387.2]]⟩), (2, ⟨28, 9, true, true, v15, [[int x13, int x374, int x378, int x382, int 0, int x386, int 0, int 0, .sc (.slice none 0 0)]]⟩), (4, ⟨28, 9, true, true, w1_1, y1_4.map GOp.av⟩)]) (.tmp rfl .nil) (HK.le ⟨rfl, rfl, rfl, trivial⟩) ?_)
  exact ⟨(), (), rfl, rfl, rfl⟩
  rintro y _ ⟨_, _, rfl, hc, rfl⟩
  subst hc
  refine tr tbk 1 (.mk ?_)
  obtain ⟨p389, h2⟩ := asrt_e h2
  obtain ⟨x390, e390, h2⟩ := bnd_e h2
  obtain ⟨x391, e391, h2⟩ := bnd_e h2
  refine rse rfl rfl rfl (yl_call rfl rfl (.cons rfl .nil) cal31 (PC.mono (numP_c (s := x387) (id := 1) (ver := w0_1) rfl p389) (R' := fun y H' => y = int x390 ∧ H' = upd _ 1 (some (rdr 87 w0_1 x391))) (fun y H' h => ⟨h.1.trans (congrArg int e390), h.2.trans (rdr_cong e391)⟩))) ?_; rintro _ _ ⟨rfl, rfl⟩
  refine tr tbk 1 (.mk ?_)
  refine sS ⟨28, 9, true, true, v15, [[int x13, int x374, int x378, int x382, int 0, int x386, int x390, int 0, .sc (.slice none 0 0)]]⟩ sh3 ?_
  refine tr tbk 8 (.mk ?_)
  refine jn h2 [2, 3, 4, 5, 6, 15, 16] [1, 2, 4] (fun (a : Bool) (k : Unit) => [(45, boo a)]) (fun a k => []) ⟨fun j392 h3 => ?_, ?_⟩
  refine tc tbk 2 (.mk ?_)
  refine sY (yv_callR rfl rfl (.cons rfl .nil) cal32 (badP_c (s := x391) (id := 1) (ver := w0_1) rfl) (.sc _)) ?_
  refine tr tbk 1 (.mk ?_)
  obtain ⟨x393, e393, h3⟩ := bnd_e h3
  refine rsas 40 (boo x393) rfl (congrArg boo e393) ?_
  refine rsas 41 (boo x393) rfl (congrArg boo e393) ?_
  cases x393
  replace h3 := cf h3
  refine tr tbk 1 (.mk ?_)
  obtain ⟨x394, e394, h3⟩ := bind_e h3
  refine sY (yv_callP rfl rfl (.cons rfl .nil) cal8 (.cons (CvL.agg (.cons (.refl _) (.cons (.refl _) (.cons (.refl _) (.cons (.refl _) (.cons (.refl _) (.cons (.refl _) (.cons (.refl _) (.cons (.refl _) (.cons (.nil _) .nil)))))))))) .nil) (d_ops_Check_c e394)) ?_
  refine nb tbk h3 fun x395 h3 => ?_
  refine tr tbk 2 (.mk ?_)
  exact lf h3 () leA
  replace h3 := ct h3
  refine tr tbk 5 (.mk ?_)
  exact lf h3 () leA
  rintro y3_1 _ h2
  cases y3_1
  replace h2 := cf h2
  refine tc tbk 5 (.mk ?_)
  refine sY (yv_buildSlice (ps := [(0, _)]) (rows := [[int x13, int x374, int x378, int x382, int 0, int x386, int x390, int 0, .sc (.slice none 0 0)]]) rfl Try.underlying22 bz28 (.cons rfl .nil) (by kernel_rfl) rfl rfl rfl) ?_
  obtain ⟨x396, e396, h2⟩ := bnd_e h2
  obtain ⟨p397, h2⟩ := asrt_e h2
  refine rse rfl rfl rfl (yl_appT (g := GOp.av) (l := y1_4) (m := [(⟨x13, x374, x378, x382, 0, x386, x390, 0, []⟩ : GOp)]) .any rfl Try.underlying22 bz28 by28 rfl rfl rfl rfl rfl rfl rfl rfl rfl rfl (Eq.symm rfl) (CvLL.list (.cons (.cons (.refl _) (.cons (.refl _) (.cons (.refl _) (.cons (.refl _) (.cons (.refl _) (.cons (.refl _) (.cons (.refl _) (.cons (.refl _) (.cons (.nil _) .nil))))))))) .nil)) (fun _ => rfl) e396 p397) ?_; rintro _ _ ⟨v398, -, rfl, rfl⟩
  refine tr tbk 3 (.mk ?_)
  exact lfE h2 v398 leA
  replace h2 := ct h2
  refine tc tbk 6 (.mk ?_)
  obtain ⟨c399, hX, hj⟩ := esc_e h2; subst hj; replace h1 := hX.trans (sel_r h1)
  obtain ⟨c400, hX, hj⟩ := esc_e h1; subst hj; replace h0 := hX.trans (sel_r h0)
  obtain rfl := nxt_e h0
  refine wR hret (rT (rT .nil)) ?_
  exact CvL.tup (.cons (.nil _) (.cons (.refl _) .nil))
  replace h2 := ct h2
  refine w_rangeD [0, 0, 2, 7, 15] (fun i => bif Nat.beq i 1 then ([2]) else bif Nat.beq i 2 then ([2]) else []) (fun i => [2]) 4 [0, 1, 2, 3] mixed (by kernel_rfl) rfl rfl rfl rfl rfl rfl rfl rfl rfl rfl rfl rfl rfl Try.underlying9 ?_
  refine eP (fun H hH => yv_callP rfl rfl .nil cal20 (CvL.refl _) forms20_c) ?_
  refine eF fo28_0 ?_
  refine eL sh3 ?_
  refine de_as 23 (int 0) rfl (congrArg int (of_decide_eq_true e16)) ?_
  refine de_pure rfl rfl rfl rfl (fun H hH => yv_indexA rfl Try.underlying46 sh45 rfl rfl (by decide) rfl) ?_
  refine ⟨_, rfl, rfl, fun b401 => ?_⟩
  refine tc tbk 6 (.mk ?_)
  refine jn h2 [2, 3, 4, 5, 6, 15, 16] [1, 2, 4] (fun (a : Bool) (k : Unit) => [(45, boo a)]) (fun a k => []) ⟨fun j402 h3 => ?_, ?_⟩
  refine tc tbk 2 (.mk ?_)
  refine sY (yv_callR rfl rfl (.cons rfl .nil) cal32 (badP_c (s := x14) (id := 1) (ver := w0_1) rfl) (.sc _)) ?_
  refine tr tbk 1 (.mk ?_)
  obtain ⟨x403, e403, h3⟩ := bnd_e h3
  refine rsas 40 (boo x403) rfl (congrArg boo e403) ?_
  refine rsas 41 (boo x403) rfl (congrArg boo e403) ?_
  cases x403
  replace h3 := cf h3
  refine tr tbk 1 (.mk ?_)
  obtain ⟨x404, e404, h3⟩ := bind_e h3
  refine sY (yv_callP rfl rfl (.cons rfl .nil) cal8 (.cons (CvL.agg (.cons (.refl _) (.cons (.refl _) (.cons (.refl _) (.cons (.refl _) (.cons (.refl _) (.cons (.refl _) (.cons (.refl _) (.cons (.refl _) (.cons (.nil _) .nil)))))))))) .nil) (d_ops_Check_c e404)) ?_
  refine nb tbk h3 fun x405 h3 => ?_
  refine tr tbk 2 (.mk ?_)
  exact lf h3 () leA
  replace h3 := ct h3
  refine tr tbk 5 (.mk ?_)
  exact lf h3 () leA
  rintro y3_1 _ h2
  cases y3_1
  replace h2 := cf h2
  refine tc tbk 5 (.mk ?_)
  refine sY (yv_buildSlice (ps := [(0, _)]) (rows := [[int x13, int 0, int 0, int 0, int 0, int 0, int 0, int 0, .sc (.slice none 0 0)]]) rfl Try.underlying22 bz28 (.cons rfl .nil) (by kernel_rfl) rfl rfl rfl) ?_
  obtain ⟨x406, e406, h2⟩ := bnd_e h2
  obtain ⟨p407, h2⟩ := asrt_e h2
  refine rse rfl rfl rfl (yl_appT (g := GOp.av) (l := y1_4) (m := [(⟨x13, 0, 0, 0, 0, 0, 0, 0, []⟩ : GOp)]) .any rfl Try.underlying22 bz28 by28 rfl rfl rfl rfl rfl rfl rfl rfl rfl rfl (Eq.symm rfl) (CvLL.list (.cons (.cons (.refl _) (.cons (.refl _) (.cons (.refl _) (.cons (.refl _) (.cons (.refl _) (.cons (.refl _) (.cons (.refl _) (.cons (.refl _) (.cons (.nil _) .nil))))))))) .nil)) (fun _ => rfl) e406 p407) ?_; rintro _ _ ⟨v408, -, rfl, rfl⟩
  refine tr tbk 3 (.mk ?_)
  exact lfE h2 v408 leA
  replace h2 := ct h2
  refine tc tbk 6 (.mk ?_)
  obtain ⟨c409, hX, hj⟩ := esc_e h2; subst hj; replace h1 := hX.trans (sel_r h1)
  obtain ⟨c410, hX, hj⟩ := esc_e h1; subst hj; replace h0 := hX.trans (sel_r h0)
  obtain rfl := nxt_e h0
  refine wR hret (rT (rT .nil)) ?_
  exact CvL.tup (.cons (.nil _) (.cons (.refl _) .nil))
  rintro ⟨y4_2, y4_3⟩ w4_1 h1
  replace h1 := p2_e h1
  refine tc tbk 1 (.mk ?_)
  refine ni tbk h1 fun x411 h1 => ?_
  refine tr tbk 2 (.mk ?_)
  exact bk (x411, y4_2, y4_3) w4_1 h1 leA
  rintro ⟨y6_2, y6_3⟩ w6_1 h0
  replace h0 := p2_e h0
  refine tc tbk 2 (.mk ?_)
  refine jn h0 [2, 3, 5] [4] (fun (a : Bool) (k : Unit) => [(57, boo a)]) (fun a k => []) ⟨fun j412 h1 => ?_, ?_⟩
  refine tc tbk 2 (.mk ?_)
  refine sY (yv_callR rfl rfl (.cons rfl .nil) cal32 (badP_c (s := ((y6_2.s, y6_2.bad) : RS)) (id := 1) (ver := w0_1) rfl) (.sc _)) ?_
  refine tr tbk 1 (.mk ?_)
  obtain ⟨x413, e413, h1⟩ := bnd_e h1
  refine rsas 52 (boo x413) rfl (congrArg boo e413) ?_
  refine rsas 53 (boo x413) rfl (congrArg boo e413) ?_
  cases x413
  replace h1 := cf h1
  refine tr tbk 1 (.mk ?_)
  refine sY (yv_callR rfl rfl (.cons rfl .nil) cal33 (leftP_c (s := ((y6_2.s, y6_2.bad) : RS)) (id := 1) (ver := w0_1) rfl) (.sc _)) ?_
  refine nb tbk h1 fun x414 h1 => ?_
  refine tr tbk 2 (.mk ?_)
  exact lf h1 () leA
  replace h1 := ct h1
  refine tr tbk 5 (.mk ?_)
  exact lf h1 () leA
  rintro y7_1 _ h0
  cases y7_1
  replace h0 := cf h0
  refine tc tbk 8 (.mk ?_)
  obtain rfl := nxt_e h0
  refine wR hret (rT (rT .nil)) ?_
  exact CvL.tup (.cons (cv_lst rfl rfl rfl rfl rfl (Eq.symm rfl)) (.cons (.refl _) .nil))
  replace h0 := ct h0
  refine tc tbk 6 (.mk ?_)
  obtain rfl := nxt_e h0
  refine wR hret (rT (rT .nil)) ?_
  exact CvL.tup (.cons (.nil _) (.cons (.refl _) .nil))
def d_slices_Equal_int_int_L0 (a1 : List Int) (a2 : List Int) : Nat → Int → Option ((Unit) ⊕ (Bool))
  | 0, _ => none
  | n + 1, y0_1 =>
    bnd (decide (y0_1 < (a1.length : Int))) fun x5 =>
    cond x5 ((ix a1 y0_1).bind fun x6 =>
    (ix a2 y0_1).bind fun x7 =>
    bnd (decide (x6 ≠ x7)) fun x8 =>
    cond x8 (esc (some ((false : Bool)))) (bnd (w64 (y0_1 + 1)) fun x9 =>
    d_slices_Equal_int_int_L0 a1 a2 n (x9 : Int))) (brk ())
def d_slices_Equal_int_int (n : Nat) (a1 : List Int) (a2 : List Int) : Option (Bool) :=
bnd (decide ((a1.length : Int) ≠ (a2.length : Int))) fun x3 =>
cond x3 (some ((false : Bool))) ((show Option ((Unit) ⊕ (Bool)) from
d_slices_Equal_int_int_L0 a1 a2 n (0 : Int)).bind <| sel <| fun _ =>
some ((true : Bool)))
theorem d_slices_Equal_int_int_c {n : Nat} {a1 : List Int} {a2 : List Int} {r : Bool} (h0 : d_slices_Equal_int_int n a1 a2 = some r) : PP Try.prog 55 [lst 1 fI a1, lst 1 fI a2] (fun y => y = boo r) := by
  unfold d_slices_Equal_int_int at h0
  refine pp_of_pc (R0 := fun y H => Cv (frzH H) y (boo r)) ?_ (fun y H hc => ⟨_, rfl, pvB r, hc⟩)
  refine pcw (c := _) Try.func55 rfl rfl ?_; intro Q hret hnorm
  refine tc tbk 8 (.mk ?_)
  refine sY (yv_len_sl rfl Try.underlying26 rfl (lst_len _)) ?_
  refine tr tbk 1 (.mk ?_)
  refine sY (yv_len_sl rfl Try.underlying26 rfl (lst_len _)) ?_
  refine nb tbk h0 fun x3 h0 => ?_
  refine tr tbk 1 (.mk ?_)
  cases x3
  replace h0 := cf h0
  refine tc tbk 6 (.mk ?_)
  refine sY (yv_len_sl rfl Try.underlying26 rfl (lst_len _)) ?_
  refine tr tbk 2 (.mk ?_)
  refine jnE h0 [4] [] (fun (a : Unit) (k : Unit) => []) (fun a k => []) ⟨fun j4 h1 h0 => ?_, ?_⟩
  refine tc tbk 1 (.mk ?_)
  refine lp (fun n (a : Int) => d_slices_Equal_int_int_L0 a1 a2 n a) (0 : Int) () h1 [0, 1, 4, 12] [] (fun (a : Int) (k : Unit) => [(13, int a)]) (fun a k => []) (fun _ => rfl) ⟨leA, ?_⟩
  rintro n y0_1 _ hm h1
  replace h1 : d_slices_Equal_int_int_L0 a1 a2 (n + 1) y0_1 = some _ := h1
  rw [d_slices_Equal_int_int_L0] at h1
  refine tc tbk 2 (.mk ?_)
  refine nb tbk h1 fun x5 h1 => ?_
  refine tr tbk 2 (.mk ?_)
  cases x5
  replace h1 := cf h1
  refine tc tbk 2 (.mk ?_)
  exact lfE h1 () leA
  replace h1 := ct h1
  refine tc tbk 10 (.mk ?_)
  refine c_drawE [0, 0, 3, 7, 0, 0, 48, 112, 255] (fun i => []) (fun i => []) (fun i => true) [0, 1, 2, 3, 4, 5, 6, 7, 8] mixed (by kernel_rfl) ?_; intro K hK
  iterate 2 refine eM ?_
  obtain ⟨x6, e6, h1⟩ := bind_e h1
  refine eP (fun H hH => yv_ixT rfl Try.underlying26 sh3 rfl rfl e6) ?_
  refine eP (fun H hH => yv_load rfl sh3 rfl (.pp _) rfl) ?_
  iterate 2 refine eM ?_
  obtain ⟨x7, e7, h1⟩ := bind_e h1
  refine eP (fun H hH => yv_ixT rfl Try.underlying26 sh3 rfl rfl e7) ?_
  refine eP (fun H hH => yv_load rfl sh3 rfl (.pp _) rfl) ?_
  obtain ⟨x8, e8, h1⟩ := bnd_e h1
  refine eP (fun H hH => yv_to (y := boo x8) (yv_neq rfl rfl rfl) (congrArg boo e8)) ?_
  refine de_nil (hK _ ?_)
  cases x8
  replace h1 := cf h1
  refine tc tbk 4 (.mk ?_)
  refine ni tbk h1 fun x9 h1 => ?_
  refine tr tbk 2 (.mk ?_)
  exact bk x9 () h1 leA
  replace h1 := ct h1
  refine tc tbk 5 (.mk ?_)
  obtain ⟨c10, hX, hj⟩ := esc_e h1; subst hj; replace h0 := hX.trans (sel_r h0)
  obtain rfl := nxt_e h0
  refine wR hret (rT .nil) ?_
  exact .refl _
  rintro _ _ h0
  refine tc tbk 4 (.mk ?_)
  obtain rfl := nxt_e h0
  refine wR hret (rT .nil) ?_
  exact .refl _
  replace h0 := ct h0
  refine tc tbk 5 (.mk ?_)
  obtain rfl := nxt_e h0
  refine wR hret (rT .nil) ?_
  exact .refl _
def d_ops_same (n : Nat) (a1 : GOp) (a2 : GOp) : Option (Bool) :=
(show Option ((Unit)) from
some ()).bind <| fun _ =>
(show Option ((Unit)) from
some ()).bind <| fun _ =>
bnd (decide (a1.E ≠ a2.E)) fun x8 =>
cond x8 (some ((false : Bool))) ((show Option ((Unit)) from
some ()).bind <| fun _ =>
(show Option ((Unit)) from
some ()).bind <| fun _ =>
bnd (decide (a1.Item ≠ a2.Item)) fun x11 =>
cond x11 (some ((false : Bool))) ((show Option ((Unit)) from
some ()).bind <| fun _ =>
(show Option ((Unit)) from
some ()).bind <| fun _ =>
bnd (decide (a1.Loc ≠ a2.Loc)) fun x14 =>
cond x14 (some ((false : Bool))) ((show Option ((Unit)) from
some ()).bind <| fun _ =>
(show Option ((Unit)) from
some ()).bind <| fun _ =>
bnd (decide (a1.To ≠ a2.To)) fun x17 =>
cond x17 (some ((false : Bool))) ((show Option ((Unit)) from
some ()).bind <| fun _ =>
(show Option ((Unit)) from
some ()).bind <| fun _ =>
bnd (decide (a1.Qty ≠ a2.Qty)) fun x20 =>
cond x20 (some ((false : Bool))) ((show Option ((Unit)) from
some ()).bind <| fun _ =>
(show Option ((Unit)) from
some ()).bind <| fun _ =>
bnd (decide (a1.Amount ≠ a2.Amount)) fun x23 =>
cond x23 (some ((false : Bool))) ((show Option ((Unit)) from
some ()).bind <| fun _ =>
(show Option ((Unit)) from
some ()).bind <| fun _ =>
bnd (decide (a1.Ref ≠ a2.Ref)) fun x26 =>
cond x26 (some ((false : Bool))) ((show Option (Bool) from
bnd (decide (a1.Kind = a2.Kind)) fun x28 =>
cond x28 ((d_slices_Equal_int_int n a1.Refs a2.Refs).bind fun x29 =>
some (x29 : Bool)) (some (false : Bool))).bind <| fun y4_1 =>
some ((y4_1 : Bool)))))))))
theorem d_ops_same_c {n : Nat} {a1 : GOp} {a2 : GOp} {r : Bool} (h0 : d_ops_same n a1 a2 = some r) : PP Try.prog 38 [.agg (GOp.av a1), .agg (GOp.av a2)] (fun y => y = boo r) := by
  unfold d_ops_same at h0
  refine pp_of_pc (R0 := fun y H => Cv (frzH H) y (boo r)) ?_ (fun y H hc => ⟨_, rfl, pvB r, hc⟩)
  refine pcw (c := _) Try.func38 rfl rfl ?_; intro Q hret hnorm
  refine tc tbk 2 (.mk ?_)
  refine sB 1 fun v3 => ?_
  refine sB 2 fun v4 => ?_
  refine tr tbk 3 (.mk ?_)
  refine w_range rfl rfl rfl rfl rfl rfl rfl rfl ?_
  refine rgi_end rfl rfl rfl rfl Try.underlying9 rfl fun b5 => ⟨rfl, ?_⟩
  refine tc tbk 11 (.mk ?_)
  refine c_drawE [0, 1, 3, 7, 0, 19, 51, 115, 255] (rl [(2, [1]), (3, [1]), (6, [2]), (7, [2])] []) (rl [(1, []), (5, [1])] [1, 2]) (rl [(1, false), (5, false)] true) [0, 4, 1, 2, 3, 5, 6, 7, 8] mixed (by kernel_rfl) ?_; intro K hK
  iterate 2 refine eM ?_
  obtain ⟨j6, h1, h0⟩ := bind_e h0
  refine de_eff (Out := fun y H' => (∃ (a : Unit) (k : Unit), a = j6 ∧ y = .pt 1 v3 0 1 ∧ H' = hk [(1, ⟨28, 9, true, true, v3, [[int a1.Kind, int a1.E, int a1.Item, int a1.Loc, int a1.To, int a1.Qty, int a1.Amount, int a1.Ref, lst 1 fI a1.Refs]]⟩), (2, ⟨28, 9, true, true, v4, [[int a2.Kind, int a2.E, int a2.Item, int a2.Loc, int a2.To, int a2.Qty, int a2.Amount, int a2.Ref, lst 1 fI a2.Refs]]⟩)])) rfl rfl rfl rfl (yl_call rfl rfl (.cons rfl (.cons rfl .nil)) cal23 ?_) (by rintro y _ ⟨_, _, rfl, hc, rfl⟩ <;> exact trivial) ?_
  refine pcw (c := _) Try.func23 rfl rfl ?_; intro Q hret hnorm
  refine tc tbk 12 (.mk ?_)
  refine sY (yv_to (y := boo true) (yv_eql rfl rfl rfl) (congrArg boo (by decide))) ?_
  refine tr tbk 10 (.mk ?_)
  obtain rfl := nxt_e h1
  refine w_ret (hret _ _ (hk [(1, ⟨28, 9, true, true, v3, [[int a1.Kind, int a1.E, int a1.Item, int a1.Loc, int a1.To, int a1.Qty, int a1.Amount, int a1.Ref, lst 1 fI a1.Refs]]⟩), (2, ⟨28, 9, true, true, v4, [[int a2.Kind, int a2.E, int a2.Item, int a2.Loc, int a2.To, int a2.Qty, int a2.Amount, int a2.Ref, lst 1 fI a2.Refs]]⟩)]) (.tmp rfl .nil) (HK.le ⟨rfl, rfl, trivial⟩) ?_)
  exact ⟨(), (), rfl, rfl, rfl⟩
  rintro y _ ⟨_, _, rfl, hc, rfl⟩
  subst hc
  refine eN ?_
  refine eL sh3 ?_
  obtain ⟨j7, h1, h0⟩ := bind_e h0
  refine de_eff (Out := fun y H' => (∃ (a : Unit) (k : Unit), a = j7 ∧ y = .pt 2 v4 0 1 ∧ H' = hk [(1, ⟨28, 9, true, true, v3, [[int a1.Kind, int a1.E, int a1.Item, int a1.Loc, int a1.To, int a1.Qty, int a1.Amount, int a1.Ref, lst 1 fI a1.Refs]]⟩), (2, ⟨28, 9, true, true, v4, [[int a2.Kind, int a2.E, int a2.Item, int a2.Loc, int a2.To, int a2.Qty, int a2.Amount, int a2.Ref, lst 1 fI a2.Refs]]⟩)])) rfl rfl rfl rfl (yl_call rfl rfl (.cons rfl (.cons rfl .nil)) cal23 ?_) (by rintro y _ ⟨_, _, rfl, hc, rfl⟩ <;> exact ⟨rfl, trivial⟩) ?_
  refine pcw (c := _) Try.func23 rfl rfl ?_; intro Q hret hnorm
  refine tc tbk 12 (.mk ?_)
  refine sY (yv_to (y := boo true) (yv_eql rfl rfl rfl) (congrArg boo (by decide))) ?_
  refine tr tbk 10 (.mk ?_)
  obtain rfl := nxt_e h1
  refine w_ret (hret _ _ (hk [(1, ⟨28, 9, true, true, v3, [[int a1.Kind, int a1.E, int a1.Item, int a1.Loc, int a1.To, int a1.Qty, int a1.Amount, int a1.Ref, lst 1 fI a1.Refs]]⟩), (2, ⟨28, 9, true, true, v4, [[int a2.Kind, int a2.E, int a2.Item, int a2.Loc, int a2.To, int a2.Qty, int a2.Amount, int a2.Ref, lst 1 fI a2.Refs]]⟩)]) (.tmp rfl .nil) (HK.le ⟨rfl, rfl, trivial⟩) ?_)
  exact ⟨(), (), rfl, rfl, rfl⟩
  rintro y _ ⟨_, _, rfl, hc, rfl⟩
  subst hc
  refine eN ?_
  refine eL sh3 ?_
  obtain ⟨x8, e8, h0⟩ := bnd_e h0
  refine eP (fun H hH => yv_to (y := boo x8) (yv_neq rfl rfl rfl) (congrArg boo e8)) ?_
  refine de_nil (hK _ ?_)
  cases x8
  replace h0 := cf h0
  refine tc tbk 14 (.mk ?_)
  refine c_drawE [0, 1, 3, 7, 0, 19, 51, 115, 255] (rl [(2, [1]), (3, [1]), (6, [2]), (7, [2])] []) (rl [(1, []), (5, [1])] [1, 2]) (rl [(1, false), (5, false)] true) [0, 4, 1, 2, 3, 5, 6, 7, 8] mixed (by kernel_rfl) ?_; intro K hK
  iterate 2 refine eM ?_
  obtain ⟨j9, h1, h0⟩ := bind_e h0
  refine de_eff (Out := fun y H' => (∃ (a : Unit) (k : Unit), a = j9 ∧ y = .pt 1 v3 0 2 ∧ H' = hk [(1, ⟨28, 9, true, true, v3, [[int a1.Kind, int a1.E, int a1.Item, int a1.Loc, int a1.To, int a1.Qty, int a1.Amount, int a1.Ref, lst 1 fI a1.Refs]]⟩), (2, ⟨28, 9, true, true, v4, [[int a2.Kind, int a2.E, int a2.Item, int a2.Loc, int a2.To, int a2.Qty, int a2.Amount, int a2.Ref, lst 1 fI a2.Refs]]⟩)])) rfl rfl rfl rfl (yl_call rfl rfl (.cons rfl (.cons rfl .nil)) cal23 ?_) (by rintro y _ ⟨_, _, rfl, hc, rfl⟩ <;> exact trivial) ?_
  refine pcw (c := _) Try.func23 rfl rfl ?_; intro Q hret hnorm
  refine tc tbk 12 (.mk ?_)
  refine sY (yv_to (y := boo false) (yv_eql rfl rfl rfl) (congrArg boo (by decide))) ?_
  refine tr tbk 5 (.mk ?_)
  refine sY (yv_to (y := boo true) (yv_eql rfl rfl rfl) (congrArg boo (by decide))) ?_
  refine tr tbk 10 (.mk ?_)
  obtain rfl := nxt_e h1
  refine w_ret (hret _ _ (hk [(1, ⟨28, 9, true, true, v3, [[int a1.Kind, int a1.E, int a1.Item, int a1.Loc, int a1.To, int a1.Qty, int a1.Amount, int a1.Ref, lst 1 fI a1.Refs]]⟩), (2, ⟨28, 9, true, true, v4, [[int a2.Kind, int a2.E, int a2.Item, int a2.Loc, int a2.To, int a2.Qty, int a2.Amount, int a2.Ref, lst 1 fI a2.Refs]]⟩)]) (.tmp rfl .nil) (HK.le ⟨rfl, rfl, trivial⟩) ?_)
  exact ⟨(), (), rfl, rfl, rfl⟩
  rintro y _ ⟨_, _, rfl, hc, rfl⟩
  subst hc
  refine eN ?_
  refine eL sh3 ?_
  obtain ⟨j10, h1, h0⟩ := bind_e h0
  refine de_eff (Out := fun y H' => (∃ (a : Unit) (k : Unit), a = j10 ∧ y = .pt 2 v4 0 2 ∧ H' = hk [(1, ⟨28, 9, true, true, v3, [[int a1.Kind, int a1.E, int a1.Item, int a1.Loc, int a1.To, int a1.Qty, int a1.Amount, int a1.Ref, lst 1 fI a1.Refs]]⟩), (2, ⟨28, 9, true, true, v4, [[int a2.Kind, int a2.E, int a2.Item, int a2.Loc, int a2.To, int a2.Qty, int a2.Amount, int a2.Ref, lst 1 fI a2.Refs]]⟩)])) rfl rfl rfl rfl (yl_call rfl rfl (.cons rfl (.cons rfl .nil)) cal23 ?_) (by rintro y _ ⟨_, _, rfl, hc, rfl⟩ <;> exact ⟨rfl, trivial⟩) ?_
  refine pcw (c := _) Try.func23 rfl rfl ?_; intro Q hret hnorm
  refine tc tbk 12 (.mk ?_)
  refine sY (yv_to (y := boo false) (yv_eql rfl rfl rfl) (congrArg boo (by decide))) ?_
  refine tr tbk 5 (.mk ?_)
  refine sY (yv_to (y := boo true) (yv_eql rfl rfl rfl) (congrArg boo (by decide))) ?_
  refine tr tbk 10 (.mk ?_)
  obtain rfl := nxt_e h1
  refine w_ret (hret _ _ (hk [(1, ⟨28, 9, true, true, v3, [[int a1.Kind, int a1.E, int a1.Item, int a1.Loc, int a1.To, int a1.Qty, int a1.Amount, int a1.Ref, lst 1 fI a1.Refs]]⟩), (2, ⟨28, 9, true, true, v4, [[int a2.Kind, int a2.E, int a2.Item, int a2.Loc, int a2.To, int a2.Qty, int a2.Amount, int a2.Ref, lst 1 fI a2.Refs]]⟩)]) (.tmp rfl .nil) (HK.le ⟨rfl, rfl, trivial⟩) ?_)
  exact ⟨(), (), rfl, rfl, rfl⟩
  rintro y _ ⟨_, _, rfl, hc, rfl⟩
  subst hc
  refine eN ?_
  refine eL sh3 ?_
  obtain ⟨x11, e11, h0⟩ := bnd_e h0
  refine eP (fun H hH => yv_to (y := boo x11) (yv_neq rfl rfl rfl) (congrArg boo e11)) ?_
  refine de_nil (hK _ ?_)
  cases x11
  replace h0 := cf h0
  refine tc tbk 14 (.mk ?_)
  refine c_drawE [0, 1, 3, 7, 0, 19, 51, 115, 255] (rl [(2, [1]), (3, [1]), (6, [2]), (7, [2])] []) (rl [(1, []), (5, [1])] [1, 2]) (rl [(1, false), (5, false)] true) [0, 4, 1, 2, 3, 5, 6, 7, 8] mixed (by kernel_rfl) ?_; intro K hK
  iterate 2 refine eM ?_
  obtain ⟨j12, h1, h0⟩ := bind_e h0
  refine de_eff (Out := fun y H' => (∃ (a : Unit) (k : Unit), a = j12 ∧ y = .pt 1 v3 0 3 ∧ H' = hk [(1, ⟨28, 9, true, true, v3, [[int a1.Kind, int a1.E, int a1.Item, int a1.Loc, int a1.To, int a1.Qty, int a1.Amount, int a1.Ref, lst 1 fI a1.Refs]]⟩), (2, ⟨28, 9, true, true, v4, [[int a2.Kind, int a2.E, int a2.Item, int a2.Loc, int a2.To, int a2.Qty, int a2.Amount, int a2.Ref, lst 1 fI a2.Refs]]⟩)])) rfl rfl rfl rfl (yl_call rfl rfl (.cons rfl (.cons rfl .nil)) cal23 ?_) (by rintro y _ ⟨_, _, rfl, hc, rfl⟩ <;> exact trivial) ?_
  refine pcw (c := _) Try.func23 rfl rfl ?_; intro Q hret hnorm
  refine tc tbk 12 (.mk ?_)
  refine sY (yv_to (y := boo false) (yv_eql rfl rfl rfl) (congrArg boo (by decide))) ?_
  refine tr tbk 5 (.mk ?_)
  refine sY (yv_to (y := boo false) (yv_eql rfl rfl rfl) (congrArg boo (by decide))) ?_
  refine tr tbk 5 (.mk ?_)
  refine sY (yv_to (y := boo true) (yv_eql rfl rfl rfl) (congrArg boo (by decide))) ?_
  refine tr tbk 10 (.mk ?_)
  obtain rfl := nxt_e h1
  refine w_ret (hret _ _ (hk [(1, ⟨28, 9, true, true, v3, [[int a1.Kind, int a1.E, int a1.Item, int a1.Loc, int a1.To, int a1.Qty, int a1.Amount, int a1.Ref, lst 1 fI a1.Refs]]⟩), (2, ⟨28, 9, true, true, v4, [[int a2.Kind, int a2.E, int a2.Item, int a2.Loc, int a2.To, int a2.Qty, int a2.Amount, int a2.Ref, lst 1 fI a2.Refs]]⟩)]) (.tmp rfl .nil) (HK.le ⟨rfl, rfl, trivial⟩) ?_)
  exact ⟨(), (), rfl, rfl, rfl⟩
  rintro y _ ⟨_, _, rfl, hc, rfl⟩
  subst hc
  refine eN ?_
  refine eL sh3 ?_
  obtain ⟨j13, h1, h0⟩ := bind_e h0
  refine de_eff (Out := fun y H' => (∃ (a : Unit) (k : Unit), a = j13 ∧ y = .pt 2 v4 0 3 ∧ H' = hk [(1, ⟨28, 9, true, true, v3, [[int a1.Kind, int a1.E, int a1.Item, int a1.Loc, int a1.To, int a1.Qty, int a1.Amount, int a1.Ref, lst 1 fI a1.Refs]]⟩), (2, ⟨28, 9, true, true, v4, [[int a2.Kind, int a2.E, int a2.Item, int a2.Loc, int a2.To, int a2.Qty, int a2.Amount, int a2.Ref, lst 1 fI a2.Refs]]⟩)])) rfl rfl rfl rfl (yl_call rfl rfl (.cons rfl (.cons rfl .nil)) cal23 ?_) (by rintro y _ ⟨_, _, rfl, hc, rfl⟩ <;> exact ⟨rfl, trivial⟩) ?_
  refine pcw (c := _) Try.func23 rfl rfl ?_; intro Q hret hnorm
  refine tc tbk 12 (.mk ?_)
  refine sY (yv_to (y := boo false) (yv_eql rfl rfl rfl) (congrArg boo (by decide))) ?_
  refine tr tbk 5 (.mk ?_)
  refine sY (yv_to (y := boo false) (yv_eql rfl rfl rfl) (congrArg boo (by decide))) ?_
  refine tr tbk 5 (.mk ?_)
  refine sY (yv_to (y := boo true) (yv_eql rfl rfl rfl) (congrArg boo (by decide))) ?_
  refine tr tbk 10 (.mk ?_)
  obtain rfl := nxt_e h1
  refine w_ret (hret _ _ (hk [(1, ⟨28, 9, true, true, v3, [[int a1.Kind, int a1.E, int a1.Item, int a1.Loc, int a1.To, int a1.Qty, int a1.Amount, int a1.Ref, lst 1 fI a1.Refs]]⟩), (2, ⟨28, 9, true, true, v4, [[int a2.Kind, int a2.E, int a2.Item, int a2.Loc, int a2.To, int a2.Qty, int a2.Amount, int a2.Ref, lst 1 fI a2.Refs]]⟩)]) (.tmp rfl .nil) (HK.le ⟨rfl, rfl, trivial⟩) ?_)
  exact ⟨(), (), rfl, rfl, rfl⟩
  rintro y _ ⟨_, _, rfl, hc, rfl⟩
  subst hc
  refine eN ?_
  refine eL sh3 ?_
  obtain ⟨x14, e14, h0⟩ := bnd_e h0
  refine eP (fun H hH => yv_to (y := boo x14) (yv_neq rfl rfl rfl) (congrArg boo e14)) ?_
  refine de_nil (hK _ ?_)
  cases x14
  replace h0 := cf h0
  refine tc tbk 14 (.mk ?_)
  refine c_drawE [0, 1, 3, 7, 0, 19, 51, 115, 255] (rl [(2, [1]), (3, [1]), (6, [2]), (7, [2])] []) (rl [(1, []), (5, [1])] [1, 2]) (rl [(1, false), (5, false)] true) [0, 4, 1, 2, 3, 5, 6, 7, 8] mixed (by kernel_rfl) ?_; intro K hK
  iterate 2 refine eM ?_
  obtain ⟨j15, h1, h0⟩ := bind_e h0
  refine de_eff (Out := fun y H' => (∃ (a : Unit) (k : Unit), a = j15 ∧ y = .pt 1 v3 0 4 ∧ H' = hk [(1, ⟨28, 9, true, true, v3, [[int a1.Kind, int a1.E, int a1.Item, int a1.Loc, int a1.To, int a1.Qty, int a1.Amount, int a1.Ref, lst 1 fI a1.Refs]]⟩), (2, ⟨28, 9, true, true, v4, [[int a2.Kind, int a2.E, int a2.Item, int a2.Loc, int a2.To, int a2.Qty, int a2.Amount, int a2.Ref, lst 1 fI a2.Refs]]⟩)])) rfl rfl rfl rfl (yl_call rfl rfl (.cons rfl (.cons rfl .nil)) cal23 ?_) (by rintro y _ ⟨_, _, rfl, hc, rfl⟩ <;> exact trivial) ?_
  refine pcw (c := _) Try.func23 rfl rfl ?_; intro Q hret hnorm
  refine tc tbk 12 (.mk ?_)
  refine sY (yv_to (y := boo false) (yv_eql rfl rfl rfl) (congrArg boo (by decide))) ?_
  refine tr tbk 5 (.mk ?_)
  refine sY (yv_to (y := boo false) (yv_eql rfl rfl rfl) (congrArg boo (by decide))) ?_
  refine tr tbk 5 (.mk ?_)
  refine sY (yv_to (y := boo false) (yv_eql rfl rfl rfl) (congrArg boo (by decide))) ?_
  refine tr tbk 5 (.mk ?_)
  refine sY (yv_to (y := boo true) (yv_eql rfl rfl rfl) (congrArg boo (by decide))) ?_
  refine tr tbk 10 (.mk ?_)
  obtain rfl := nxt_e h1
  refine w_ret (hret _ _ (hk [(1, ⟨28, 9, true, true, v3, [[int a1.Kind, int a1.E, int a1.Item, int a1.Loc, int a1.To, int a1.Qty, int a1.Amount, int a1.Ref, lst 1 fI a1.Refs]]⟩), (2, ⟨28, 9, true, true, v4, [[int a2.Kind, int a2.E, int a2.Item, int a2.Loc, int a2.To, int a2.Qty, int a2.Amount, int a2.Ref, lst 1 fI a2.Refs]]⟩)]) (.tmp rfl .nil) (HK.le ⟨rfl, rfl, trivial⟩) ?_)
  exact ⟨(), (), rfl, rfl, rfl⟩
  rintro y _ ⟨_, _, rfl, hc, rfl⟩
  subst hc
  refine eN ?_
  refine eL sh3 ?_
  obtain ⟨j16, h1, h0⟩ := bind_e h0
  refine de_eff (Out := fun y H' => (∃ (a : Unit) (k : Unit), a = j16 ∧ y = .pt 2 v4 0 4 ∧ H' = hk [(1, ⟨28, 9, true, true, v3, [[int a1.Kind, int a1.E, int a1.Item, int a1.Loc, int a1.To, int a1.Qty, int a1.Amount, int a1.Ref, lst 1 fI a1.Refs]]⟩), (2, ⟨28, 9, true, true, v4, [[int a2.Kind, int a2.E, int a2.Item, int a2.Loc, int a2.To, int a2.Qty, int a2.Amount, int a2.Ref, lst 1 fI a2.Refs]]⟩)])) rfl rfl rfl rfl (yl_call rfl rfl (.cons rfl (.cons rfl .nil)) cal23 ?_) (by rintro y _ ⟨_, _, rfl, hc, rfl⟩ <;> exact ⟨rfl, trivial⟩) ?_
  refine pcw (c := _) Try.func23 rfl rfl ?_; intro Q hret hnorm
  refine tc tbk 12 (.mk ?_)
  refine sY (yv_to (y := boo false) (yv_eql rfl rfl rfl) (congrArg boo (by decide))) ?_
  refine tr tbk 5 (.mk ?_)
  refine sY (yv_to (y := boo false) (yv_eql rfl rfl rfl) (congrArg boo (by decide))) ?_
  refine tr tbk 5 (.mk ?_)
  refine sY (yv_to (y := boo false) (yv_eql rfl rfl rfl) (congrArg boo (by decide))) ?_
  refine tr tbk 5 (.mk ?_)
  refine sY (yv_to (y := boo true) (yv_eql rfl rfl rfl) (congrArg boo (by decide))) ?_
  refine tr tbk 10 (.mk ?_)
  obtain rfl := nxt_e h1
  refine w_ret (hret _ _ (hk [(1, ⟨28, 9, true, true, v3, [[int a1.Kind, int a1.E, int a1.Item, int a1.Loc, int a1.To, int a1.Qty, int a1.Amount, int a1.Ref, lst 1 fI a1.Refs]]⟩), (2, ⟨28, 9, true, true, v4, [[int a2.Kind, int a2.E, int a2.Item, int a2.Loc, int a2.To, int a2.Qty, int a2.Amount, int a2.Ref, lst 1 fI a2.Refs]]⟩)]) (.tmp rfl .nil) (HK.le ⟨rfl, rfl, trivial⟩) ?_)
  exact ⟨(), (), rfl, rfl, rfl⟩
  rintro y _ ⟨_, _, rfl, hc, rfl⟩
  subst hc
  refine eN ?_
  refine eL sh3 ?_
  obtain ⟨x17, e17, h0⟩ := bnd_e h0
  refine eP (fun H hH => yv_to (y := boo x17) (yv_neq rfl rfl rfl) (congrArg boo e17)) ?_
  refine de_nil (hK _ ?_)
  cases x17
  replace h0 := cf h0
  refine tc tbk 14 (.mk ?_)
  refine c_drawE [0, 1, 3, 7, 0, 19, 51, 115, 255] (rl [(2, [1]), (3, [1]), (6, [2]), (7, [2])] []) (rl [(1, []), (5, [1])] [1, 2]) (rl [(1, false), (5, false)] true) [0, 4, 1, 2, 3, 5, 6, 7, 8] mixed (by kernel_rfl) ?_; intro K hK
  iterate 2 refine eM ?_
  obtain ⟨j18, h1, h0⟩ := bind_e h0
  refine de_eff (Out := fun y H' => (∃ (a : Unit) (k : Unit), a = j18 ∧ y = .pt 1 v3 0 5 ∧ H' = hk [(1, ⟨28, 9, true, true, v3, [[int a1.Kind, int a1.E, int a1.Item, int a1.Loc, int a1.To, int a1.Qty, int a1.Amount, int a1.Ref, lst 1 fI a1.Refs]]⟩), (2, ⟨28, 9, true, true, v4, [[int a2.Kind, int a2.E, int a2.Item, int a2.Loc, int a2.To, int a2.Qty, int a2.Amount, int a2.Ref, lst 1 fI a2.Refs]]⟩)])) rfl rfl rfl rfl (yl_call rfl rfl (.cons rfl (.cons rfl .nil)) cal23 ?_) (by rintro y _ ⟨_, _, rfl, hc, rfl⟩ <;> exact trivial) ?_
  refine pcw (c := _) Try.func23 rfl rfl ?_; intro Q hret hnorm
  refine tc tbk 12 (.mk ?_)
  refine sY (yv_to (y := boo false) (yv_eql rfl rfl rfl) (congrArg boo (by decide))) ?_
  refine tr tbk 5 (.mk ?_)
  refine sY (yv_to (y := boo false) (yv_eql rfl rfl rfl) (congrArg boo (by decide))) ?_
  refine tr tbk 5 (.mk ?_)
  refine sY (yv_to (y := boo false) (yv_eql rfl rfl rfl) (congrArg boo (by decide))) ?_
  refine tr tbk 5 (.mk ?_)
  refine sY (yv_to (y := boo false) (yv_eql rfl rfl rfl) (congrArg boo (by decide))) ?_
  refine tr tbk 5 (.mk ?_)
  refine sY (yv_to (y := boo true) (yv_eql rfl rfl rfl) (congrArg boo (by decide))) ?_
  refine tr tbk 10 (.mk ?_)
  obtain rfl := nxt_e h1
  refine w_ret (hret _ _ (hk [(1, ⟨28, 9, true, true, v3, [[int a1.Kind, int a1.E, int a1.Item, int a1.Loc, int a1.To, int a1.Qty, int a1.Amount, int a1.Ref, lst 1 fI a1.Refs]]⟩), (2, ⟨28, 9, true, true, v4, [[int a2.Kind, int a2.E, int a2.Item, int a2.Loc, int a2.To, int a2.Qty, int a2.Amount, int a2.Ref, lst 1 fI a2.Refs]]⟩)]) (.tmp rfl .nil) (HK.le ⟨rfl, rfl, trivial⟩) ?_)
  exact ⟨(), (), rfl, rfl, rfl⟩
  rintro y _ ⟨_, _, rfl, hc, rfl⟩
  subst hc
  refine eN ?_
  refine eL sh3 ?_
  obtain ⟨j19, h1, h0⟩ := bind_e h0
  refine de_eff (Out := fun y H' => (∃ (a : Unit) (k : Unit), a = j19 ∧ y = .pt 2 v4 0 5 ∧ H' = hk [(1, ⟨28, 9, true, true, v3, [[int a1.Kind, int a1.E, int a1.Item, int a1.Loc, int a1.To, int a1.Qty, int a1.Amount, int a1.Ref, lst 1 fI a1.Refs]]⟩), (2, ⟨28, 9, true, true, v4, [[int a2.Kind, int a2.E, int a2.Item, int a2.Loc, int a2.To, int a2.Qty, int a2.Amount, int a2.Ref, lst 1 fI a2.Refs]]⟩)])) rfl rfl rfl rfl (yl_call rfl rfl (.cons rfl (.cons rfl .nil)) cal23 ?_) (by rintro y _ ⟨_, _, rfl, hc, rfl⟩ <;> exact ⟨rfl, trivial⟩) ?_
  refine pcw (c := _) Try.func23 rfl rfl ?_; intro Q hret hnorm
  refine tc tbk 12 (.mk ?_)
  refine sY (yv_to (y := boo false) (yv_eql rfl rfl rfl) (congrArg boo (by decide))) ?_
  refine tr tbk 5 (.mk ?_)
  refine sY (yv_to (y := boo false) (yv_eql rfl rfl rfl) (congrArg boo (by decide))) ?_
  refine tr tbk 5 (.mk ?_)
  refine sY (yv_to (y := boo false) (yv_eql rfl rfl rfl) (congrArg boo (by decide))) ?_
  refine tr tbk 5 (.mk ?_)
  refine sY (yv_to (y := boo false) (yv_eql rfl rfl rfl) (congrArg boo (by decide))) ?_
  refine tr tbk 5 (.mk ?_)
  refine sY (yv_to (y := boo true) (yv_eql rfl rfl rfl) (congrArg boo (by decide))) ?_
  refine tr tbk 10 (.mk ?_)
  obtain rfl := nxt_e h1
  refine w_ret (hret _ _ (hk [(1, ⟨28, 9, true, true, v3, [[int a1.Kind, int a1.E, int a1.Item, int a1.Loc, int a1.To, int a1.Qty, int a1.Amount, int a1.Ref, lst 1 fI a1.Refs]]⟩), (2, ⟨28, 9, true, true, v4, [[int a2.Kind, int a2.E, int a2.Item, int a2.Loc, int a2.To, int a2.Qty, int a2.Amount, int a2.Ref, lst 1 fI a2.Refs]]⟩)]) (.tmp rfl .nil) (HK.le ⟨rfl, rfl, trivial⟩) ?_)
  exact ⟨(), (), rfl, rfl, rfl⟩
  rintro y _ ⟨_, _, rfl, hc, rfl⟩
  subst hc
  refine eN ?_
  refine eL sh3 ?_
  obtain ⟨x20, e20, h0⟩ := bnd_e h0
  refine eP (fun H hH => yv_to (y := boo x20) (yv_neq rfl rfl rfl) (congrArg boo e20)) ?_
  refine de_nil (hK _ ?_)
  cases x20
  replace h0 := cf h0
  refine tc tbk 14 (.mk ?_)
  refine c_drawE [0, 1, 3, 7, 0, 19, 51, 115, 255] (rl [(2, [1]), (3, [1]), (6, [2]), (7, [2])] []) (rl [(1, []), (5, [1])] [1, 2]) (rl [(1, false), (5, false)] true) [0, 4, 1, 2, 3, 5, 6, 7, 8] mixed (by kernel_rfl) ?_; intro K hK
  iterate 2 refine eM ?_
  obtain ⟨j21, h1, h0⟩ := bind_e h0
  refine de_eff (Out := fun y H' => (∃ (a : Unit) (k : Unit), a = j21 ∧ y = .pt 1 v3 0 6 ∧ H' = hk [(1, ⟨28, 9, true, true, v3, [[int a1.Kind, int a1.E, int a1.Item, int a1.Loc, int a1.To, int a1.Qty, int a1.Amount, int a1.Ref, lst 1 fI a1.Refs]]⟩), (2, ⟨28, 9, true, true, v4, [[int a2.Kind, int a2.E, int a2.Item, int a2.Loc, int a2.To, int a2.Qty, int a2.Amount, int a2.Ref, lst 1 fI a2.Refs]]⟩)])) rfl rfl rfl rfl (yl_call rfl rfl (.cons rfl (.cons rfl .nil)) cal23 ?_) (by rintro y _ ⟨_, _, rfl, hc, rfl⟩ <;> exact trivial) ?_
  refine pcw (c := _) Try.func23 rfl rfl ?_; intro Q hret hnorm
  refine tc tbk 12 (.mk ?_)
  refine sY (yv_to (y := boo false) (yv_eql rfl rfl rfl) (congrArg boo (by decide))) ?_
  refine tr tbk 5 (.mk ?_)
  refine sY (yv_to (y := boo false) (yv_eql rfl rfl rfl) (congrArg boo (by decide))) ?_
  refine tr tbk 5 (.mk ?_)
  refine sY (yv_to (y := boo false) (yv_eql rfl rfl rfl) (congrArg boo (by decide))) ?_
  refine tr tbk 5 (.mk ?_)
  refine sY (yv_to (y := boo false) (yv_eql rfl rfl rfl) (congrArg boo (by decide))) ?_
  refine tr tbk 5 (.mk ?_)
  refine sY (yv_to (y := boo false) (yv_eql rfl rfl rfl) (congrArg boo (by decide))) ?_
  refine tr tbk 5 (.mk ?_)
  refine sY (yv_to (y := boo true) (yv_eql rfl rfl rfl) (congrArg boo (by decide))) ?_
  refine tr tbk 10 (.mk ?_)
  obtain rfl := nxt_e h1
  refine w_ret (hret _ _ (hk [(1, ⟨28, 9, true, true, v3, [[int a1.Kind, int a1.E, int a1.Item, int a1.Loc, int a1.To, int a1.Qty, int a1.Amount, int a1.Ref, lst 1 fI a1.Refs]]⟩), (2, ⟨28, 9, true, true, v4, [[int a2.Kind, int a2.E, int a2.Item, int a2.Loc, int a2.To, int a2.Qty, int a2.Amount, int a2.Ref, lst 1 fI a2.Refs]]⟩)]) (.tmp rfl .nil) (HK.le ⟨rfl, rfl, trivial⟩) ?_)
  exact ⟨(), (), rfl, rfl, rfl⟩
  rintro y _ ⟨_, _, rfl, hc, rfl⟩
  subst hc
  refine eN ?_
  refine eL sh3 ?_
  obtain ⟨j22, h1, h0⟩ := bind_e h0
  refine de_eff (Out := fun y H' => (∃ (a : Unit) (k : Unit), a = j22 ∧ y = .pt 2 v4 0 6 ∧ H' = hk [(1, ⟨28, 9, true, true, v3, [[int a1.Kind, int a1.E, int a1.Item, int a1.Loc, int a1.To, int a1.Qty, int a1.Amount, int a1.Ref, lst 1 fI a1.Refs]]⟩), (2, ⟨28, 9, true, true, v4, [[int a2.Kind, int a2.E, int a2.Item, int a2.Loc, int a2.To, int a2.Qty, int a2.Amount, int a2.Ref, lst 1 fI a2.Refs]]⟩)])) rfl rfl rfl rfl (yl_call rfl rfl (.cons rfl (.cons rfl .nil)) cal23 ?_) (by rintro y _ ⟨_, _, rfl, hc, rfl⟩ <;> exact ⟨rfl, trivial⟩) ?_
  refine pcw (c := _) Try.func23 rfl rfl ?_; intro Q hret hnorm
  refine tc tbk 12 (.mk ?_)
  refine sY (yv_to (y := boo false) (yv_eql rfl rfl rfl) (congrArg boo (by decide))) ?_
  refine tr tbk 5 (.mk ?_)
  refine sY (yv_to (y := boo false) (yv_eql rfl rfl rfl) (congrArg boo (by decide))) ?_
  refine tr tbk 5 (.mk ?_)
  refine sY (yv_to (y := boo false) (yv_eql rfl rfl rfl) (congrArg boo (by decide))) ?_
  refine tr tbk 5 (.mk ?_)
  refine sY (yv_to (y := boo false) (yv_eql rfl rfl rfl) (congrArg boo (by decide))) ?_
  refine tr tbk 5 (.mk ?_)
  refine sY (yv_to (y := boo false) (yv_eql rfl rfl rfl) (congrArg boo (by decide))) ?_
  refine tr tbk 5 (.mk ?_)
  refine sY (yv_to (y := boo true) (yv_eql rfl rfl rfl) (congrArg boo (by decide))) ?_
  refine tr tbk 10 (.mk ?_)
  obtain rfl := nxt_e h1
  refine w_ret (hret _ _ (hk [(1, ⟨28, 9, true, true, v3, [[int a1.Kind, int a1.E, int a1.Item, int a1.Loc, int a1.To, int a1.Qty, int a1.Amount, int a1.Ref, lst 1 fI a1.Refs]]⟩), (2, ⟨28, 9, true, true, v4, [[int a2.Kind, int a2.E, int a2.Item, int a2.Loc, int a2.To, int a2.Qty, int a2.Amount, int a2.Ref, lst 1 fI a2.Refs]]⟩)]) (.tmp rfl .nil) (HK.le ⟨rfl, rfl, trivial⟩) ?_)
  exact ⟨(), (), rfl, rfl, rfl⟩
  rintro y _ ⟨_, _, rfl, hc, rfl⟩
  subst hc
  refine eN ?_
  refine eL sh3 ?_
  obtain ⟨x23, e23, h0⟩ := bnd_e h0
  refine eP (fun H hH => yv_to (y := boo x23) (yv_neq rfl rfl rfl) (congrArg boo e23)) ?_
  refine de_nil (hK _ ?_)
  cases x23
  replace h0 := cf h0
  refine tc tbk 14 (.mk ?_)
  refine c_drawE [0, 1, 3, 7, 0, 19, 51, 115, 255] (rl [(2, [1]), (3, [1]), (6, [2]), (7, [2])] []) (rl [(1, []), (5, [1])] [1, 2]) (rl [(1, false), (5, false)] true) [0, 4, 1, 2, 3, 5, 6, 7, 8] mixed (by kernel_rfl) ?_; intro K hK
  iterate 2 refine eM ?_
  obtain ⟨j24, h1, h0⟩ := bind_e h0
  refine de_eff (Out := fun y H' => (∃ (a : Unit) (k : Unit), a = j24 ∧ y = .pt 1 v3 0 7 ∧ H' = hk [(1, ⟨28, 9, true, true, v3, [[int a1.Kind, int a1.E, int a1.Item, int a1.Loc, int a1.To, int a1.Qty, int a1.Amount, int a1.Ref, lst 1 fI a1.Refs]]⟩), (2, ⟨28, 9, true, true, v4, [[int a2.Kind, int a2.E, int a2.Item, int a2.Loc, int a2.To, int a2.Qty, int a2.Amount, int a2.Ref, lst 1 fI a2.Refs]]⟩)])) rfl rfl rfl rfl (yl_call rfl rfl (.cons rfl (.cons rfl .nil)) cal23 ?_) (by rintro y _ ⟨_, _, rfl, hc, rfl⟩ <;> exact trivial) ?_
  refine pcw (c := _) Try.func23 rfl rfl ?_; intro Q hret hnorm
  refine tc tbk 12 (.mk ?_)
  refine sY (yv_to (y := boo false) (yv_eql rfl rfl rfl) (congrArg boo (by decide))) ?_
  refine tr tbk 5 (.mk ?_)
  refine sY (yv_to (y := boo false) (yv_eql rfl rfl rfl) (congrArg boo (by decide))) ?_
  refine tr tbk 5 (.mk ?_)
  refine sY (yv_to (y := boo false) (yv_eql rfl rfl rfl) (congrArg boo (by decide))) ?_
  refine tr tbk 5 (.mk ?_)
  refine sY (yv_to (y := boo false) (yv_eql rfl rfl rfl) (congrArg boo (by decide))) ?_
  refine tr tbk 5 (.mk ?_)
  refine sY (yv_to (y := boo false) (yv_eql rfl rfl rfl) (congrArg boo (by decide))) ?_
  refine tr tbk 5 (.mk ?_)
  refine sY (yv_to (y := boo false) (yv_eql rfl rfl rfl) (congrArg boo (by decide))) ?_
  refine tr tbk 12 (.mk ?_)
  obtain rfl := nxt_e h1
  refine w_ret (hret _ _ (hk [(1, ⟨28, 9, true, true, v3, [[int a1.Kind, int a1.E, int a1.Item, int a1.Loc, int a1.To, int a1.Qty, int a1.Amount, int a1.Ref, lst 1 fI a1.Refs]]⟩), (2, ⟨28, 9, true, true, v4, [[int a2.Kind, int a2.E, int a2.Item, int a2.Loc, int a2.To, int a2.Qty, int a2.Amount, int a2.Ref, lst 1 fI a2.Refs]]⟩)]) (.tmp rfl .nil) (HK.le ⟨rfl, rfl, trivial⟩) ?_)
  exact ⟨(), (), rfl, rfl, rfl⟩
  rintro y _ ⟨_, _, rfl, hc, rfl⟩
  subst hc
  refine eN ?_
  refine eL sh3 ?_
  obtain ⟨j25, h1, h0⟩ := bind_e h0
  refine de_eff (Out := fun y H' => (∃ (a : Unit) (k : Unit), a = j25 ∧ y = .pt 2 v4 0 7 ∧ H' = hk [(1, ⟨28, 9, true, true, v3, [[int a1.Kind, int a1.E, int a1.Item, int a1.Loc, int a1.To, int a1.Qty, int a1.Amount, int a1.Ref, lst 1 fI a1.Refs]]⟩), (2, ⟨28, 9, true, true, v4, [[int a2.Kind, int a2.E, int a2.Item, int a2.Loc, int a2.To, int a2.Qty, int a2.Amount, int a2.Ref, lst 1 fI a2.Refs]]⟩)])) rfl rfl rfl rfl (yl_call rfl rfl (.cons rfl (.cons rfl .nil)) cal23 ?_) (by rintro y _ ⟨_, _, rfl, hc, rfl⟩ <;> exact ⟨rfl, trivial⟩) ?_
  refine pcw (c := _) Try.func23 rfl rfl ?_; intro Q hret hnorm
  refine tc tbk 12 (.mk ?_)
  refine sY (yv_to (y := boo false) (yv_eql rfl rfl rfl) (congrArg boo (by decide))) ?_
  refine tr tbk 5 (.mk ?_)
  refine sY (yv_to (y := boo false) (yv_eql rfl rfl rfl) (congrArg boo (by decide))) ?_
  refine tr tbk 5 (.mk ?_)
  refine sY (yv_to (y := boo false) (yv_eql rfl rfl rfl) (congrArg boo (by decide))) ?_
  refine tr tbk 5 (.mk ?_)
  refine sY (yv_to (y := boo false) (yv_eql rfl rfl rfl) (congrArg boo (by decide))) ?_
  refine tr tbk 5 (.mk ?_)
  refine sY (yv_to (y := boo false) (yv_eql rfl rfl rfl) (congrArg boo (by decide))) ?_
  refine tr tbk 5 (.mk ?_)
  refine sY (yv_to (y := boo false) (yv_eql rfl rfl rfl) (congrArg boo (by decide))) ?_
  refine tr tbk 12 (.mk ?_)
  obtain rfl := nxt_e h1
  refine w_ret (hret _ _ (hk [(1, ⟨28, 9, true, true, v3, [[int a1.Kind, int a1.E, int a1.Item, int a1.Loc, int a1.To, int a1.Qty, int a1.Amount, int a1.Ref, lst 1 fI a1.Refs]]⟩), (2, ⟨28, 9, true, true, v4, [[int a2.Kind, int a2.E, int a2.Item, int a2.Loc, int a2.To, int a2.Qty, int a2.Amount, int a2.Ref, lst 1 fI a2.Refs]]⟩)]) (.tmp rfl .nil) (HK.le ⟨rfl, rfl, trivial⟩) ?_)
  exact ⟨(), (), rfl, rfl, rfl⟩
  rintro y _ ⟨_, _, rfl, hc, rfl⟩
  subst hc
  refine eN ?_
  refine eL sh3 ?_
  obtain ⟨x26, e26, h0⟩ := bnd_e h0
  refine eP (fun H hH => yv_to (y := boo x26) (yv_neq rfl rfl rfl) (congrArg boo e26)) ?_
  refine de_nil (hK _ ?_)
  cases x26
  replace h0 := cf h0
  refine tc tbk 8 (.mk ?_)
  refine jn h0 [] [] (fun (a : Bool) (k : Unit) => [(4, boo a)]) (fun a k => []) ⟨fun j27 h1 => ?_, ?_⟩
  refine tc tbk 5 (.mk ?_)
  refine nb tbk h1 fun x28 h1 => ?_
  refine tr tbk 1 (.mk ?_)
  cases x28
  replace h1 := cf h1
  refine tr tbk 8 (.mk ?_)
  exact lf h1 () leA
  replace h1 := ct h1
  refine tr tbk 4 (.mk ?_)
  obtain ⟨x29, e29, h1⟩ := bind_e h1
  refine sC cal55 (d_slices_Equal_int_int_c e29) ?_
  refine tr tbk 3 (.mk ?_)
  exact lf h1 () leA
  rintro y4_1 _ h0
  obtain rfl := nxt_e h0
  refine wR hret (rT .nil) ?_
  exact .refl _
  replace h0 := ct h0
  refine tc tbk 5 (.mk ?_)
  obtain rfl := nxt_e h0
  refine wR hret (rT .nil) ?_
  exact .refl _
  replace h0 := ct h0
  refine tc tbk 5 (.mk ?_)
  obtain rfl := nxt_e h0
  refine wR hret (rT .nil) ?_
  exact .refl _
  replace h0 := ct h0
  refine tc tbk 5 (.mk ?_)
  obtain rfl := nxt_e h0
  refine wR hret (rT .nil) ?_
  exact .refl _
  replace h0 := ct h0
  refine tc tbk 5 (.mk ?_)
  obtain rfl := nxt_e h0
  refine wR hret (rT .nil) ?_
  exact .refl _
  replace h0 := ct h0
  refine tc tbk 5 (.mk ?_)
  obtain rfl := nxt_e h0
  refine wR hret (rT .nil) ?_
  exact .refl _
  replace h0 := ct h0
  refine tc tbk 5 (.mk ?_)
  obtain rfl := nxt_e h0
  refine wR hret (rT .nil) ?_
  exact .refl _
  replace h0 := ct h0
  refine tc tbk 5 (.mk ?_)
  obtain rfl := nxt_e h0
  refine wR hret (rT .nil) ?_
  exact .refl _
def d_ops_Same_L0 (a1 : List GOp) (a2 : List GOp) : Nat → Int → Option ((Unit) ⊕ ((Bool)))
  | 0, _ => none
  | n + 1, y0_1 =>
    bnd (decide (y0_1 < (a1.length : Int))) fun x6 =>
    cond x6 ((ix a1 y0_1).bind fun x7 =>
    (ix a2 y0_1).bind fun x9 =>
    (d_ops_same n x7 x9).bind fun x11 =>
    bnd (!x11) fun x12 =>
    cond x12 (esc (some (false : Bool))) (bnd (w64 (y0_1 + 1)) fun x13 =>
    d_ops_Same_L0 a1 a2 n (x13 : Int))) (brk ())
def d_ops_Same (n : Nat) (a1 : List GOp) (a2 : List GOp) : Option (Bool) :=
(show Option ((Bool)) from
bnd (decide ((a1.length : Int) ≠ (a2.length : Int))) fun x4 =>
cond x4 (some (false : Bool)) ((show Option ((Unit) ⊕ ((Bool))) from
d_ops_Same_L0 a1 a2 n (0 : Int)).bind <| sel <| fun _ =>
some (true : Bool))).bind <| fun y2_1 =>
some ((y2_1 : Bool))
theorem d_ops_Same_c {n : Nat} {a1 : List GOp} {a2 : List GOp} {r : Bool} (h0 : d_ops_Same n a1 a2 = some r) : PP Try.prog 12 [lst 9 GOp.av a1, lst 9 GOp.av a2] (fun y => y = boo r) := by
  unfold d_ops_Same at h0
  refine pp_of_pc (R0 := fun y H => Cv (frzH H) y (boo r)) ?_ (fun y H hc => ⟨_, rfl, pvB r, hc⟩)
  refine pcw (c := _) Try.func12 rfl rfl ?_; intro Q hret hnorm
  refine tc tbk 8 (.mk ?_)
  obtain ⟨j3, h1, h0⟩ := bind_e h0
  refine rse (Out := fun y H' => (∃ (a : Bool) (k : Unit), a = j3 ∧ y = boo a ∧ H' = hk [])) rfl rfl rfl (yl_call rfl rfl (.cons rfl (.cons rfl (.cons rfl .nil))) cal37 ?_) ?_
  refine pcw (c := _) Try.func37 rfl rfl ?_; intro Q hret hnorm
  refine tc tbk 8 (.mk ?_)
  refine sY (yv_len_sl rfl Try.underlying22 rfl (lst_len _)) ?_
  refine tr tbk 1 (.mk ?_)
  refine sY (yv_len_sl rfl Try.underlying22 rfl (lst_len _)) ?_
  refine nb tbk h1 fun x4 h1 => ?_
  refine tr tbk 1 (.mk ?_)
  cases x4
  replace h1 := cf h1
  refine tc tbk 6 (.mk ?_)
  refine sY (yv_len_sl rfl Try.underlying22 rfl (lst_len _)) ?_
  refine tr tbk 2 (.mk ?_)
  refine jnE h1 [6] [] (fun (a : Unit) (k : Unit) => []) (fun a k => []) ⟨fun j5 h2 h1 => ?_, ?_⟩
  refine tc tbk 1 (.mk ?_)
  refine lp (fun n (a : Int) => d_ops_Same_L0 a1 a2 n a) (0 : Int) () h2 [1, 2, 6, 15, 16] [] (fun (a : Int) (k : Unit) => [(17, int a)]) (fun a k => []) (fun _ => rfl) ⟨leA, ?_⟩
  rintro n y0_1 _ hm h2
  replace h2 : d_ops_Same_L0 a1 a2 (n + 1) y0_1 = some _ := h2
  rw [d_ops_Same_L0] at h2
  refine tc tbk 2 (.mk ?_)
  refine nb tbk h2 fun x6 h2 => ?_
  refine tr tbk 2 (.mk ?_)
  cases x6
  replace h2 := cf h2
  refine tc tbk 2 (.mk ?_)
  exact lfE h2 () leA
  replace h2 := ct h2
  refine tc tbk 7 (.mk ?_)
  obtain ⟨x7, e7, h2⟩ := bind_e h2
  refine sY (yv_ixT rfl Try.underlying22 sh28 rfl rfl e7) ?_
  refine tr tbk 1 (.mk ?_)
  refine sA 1 z28 fun v8 => ?_
  refine tr tbk 1 (.mk ?_)
  refine sS ⟨28, 9, true, true, v8, [[int x7.Kind, int x7.E, int x7.Item, int x7.Loc, int x7.To, int x7.Qty, int x7.Amount, int x7.Ref, lst 1 fI x7.Refs]]⟩ sh28 ?_
  refine tr tbk 5 (.mk ?_)
  obtain ⟨x9, e9, h2⟩ := bind_e h2
  refine sY (yv_ixT rfl Try.underlying22 sh28 rfl rfl e9) ?_
  refine tr tbk 1 (.mk ?_)
  refine sA 2 z28 fun v10 => ?_
  refine sS ⟨28, 9, true, true, v10, [[int x9.Kind, int x9.E, int x9.Item, int x9.Loc, int x9.To, int x9.Qty, int x9.Amount, int x9.Ref, lst 1 fI x9.Refs]]⟩ sh28 ?_
  refine tr tbk 6 (.mk ?_)
  obtain ⟨x11, e11, h2⟩ := bind_e h2
  refine sC cal38 (d_ops_same_c e11) ?_
  refine nb tbk h2 fun x12 h2 => ?_
  refine tr tbk 1 (.mk ?_)
  cases x12
  replace h2 := cf h2
  refine tc tbk 4 (.mk ?_)
  refine ni tbk h2 fun x13 h2 => ?_
  refine tr tbk 2 (.mk ?_)
  exact bk x13 () h2 leA
  replace h2 := ct h2
  refine tc tbk 5 (.mk ?_)
  obtain ⟨c14, hX, hj⟩ := esc_e h2; subst hj; replace h1 := hX.trans (sel_r h1)
  obtain rfl := nxt_e h1
  refine w_ret (hret _ _ (hk []) (.tmp rfl .nil) (fun _ _ h => nomatch h) ?_)
  exact ⟨false, (), rfl, rfl, rfl⟩
  rintro _ _ h1
  refine tc tbk 4 (.mk ?_)
  obtain rfl := nxt_e h1
  refine w_ret (hret _ _ (hk []) (.tmp rfl .nil) (fun _ _ h => nomatch h) ?_)
  exact ⟨true, (), rfl, rfl, rfl⟩
  replace h1 := ct h1
  refine tc tbk 5 (.mk ?_)
  obtain rfl := nxt_e h1
  refine w_ret (hret _ _ (hk []) (.tmp rfl .nil) (fun _ _ h => nomatch h) ?_)
  exact ⟨false, (), rfl, rfl, rfl⟩
  rintro y _ ⟨y2_1, _, rfl, hc, rfl⟩
  subst hc
  refine tr tbk 2 (.mk ?_)
  obtain rfl := nxt_e h0
  refine wR hret (rT .nil) ?_
  exact .refl _
def d_law05_awake (n : Nat)  : Option (Bool) :=
(d_ops_Bytes n [(⟨1, 0, 0, 0, 0, 1, 5, 0, []⟩ : GOp)]).bind fun x1 =>
(d_ops_Read n x1).bind fun x2 =>
(show Option (Bool) from
(d_ops_Check n (⟨1, 0, 0, 0, 0, 1, 5, 0, []⟩ : GOp)).bind fun x4 =>
cond x4 (bnd (decide (x2.2 = 0)) fun x5 =>
cond x5 ((d_ops_Same n [(⟨1, 0, 0, 0, 0, 1, 5, 0, []⟩ : GOp)] x2.1).bind fun x6 =>
cond x6 (bnd (decide ((x2.1.length : Int) = 1)) fun x7 =>
cond x7 ((d_ops_Bytes n []).bind fun x8 =>
bnd (decide (x8 = ([0] : List UInt8))) fun x9 =>
cond x9 ((d_ops_Check n (⟨0, 0, 0, 0, 0, 0, 0, 0, []⟩ : GOp)).bind fun x10 =>
bnd (!x10) fun x11 =>
some (x11 : Bool)) (some (false : Bool))) (some (false : Bool))) (some (false : Bool))) (some (false : Bool))) (some (false : Bool))).bind <| fun y0_1 =>
some ((y0_1 : Bool))
theorem d_law05_awake_c {n : Nat}  {r : Bool} (h0 : d_law05_awake n  = some r) : PP Try.prog 7 [] (fun y => y = boo r) := by
  unfold d_law05_awake at h0
  refine pp_of_pc (R0 := fun y H => Cv (frzH H) y (boo r)) ?_ (fun y H hc => ⟨_, rfl, pvB r, hc⟩)
  refine pcw (c := _) Try.func7 rfl rfl ?_; intro Q hret hnorm
  refine tc tbk 6 (.mk ?_)
  refine sY (yv_build (cs := [int 1, int 0, int 0, int 0, int 0, int 1, int 5, int 0, .sc (.slice none 0 0)]) (ps := [(0, _), (5, _), (6, _)]) rfl pl28 z28 rfl (.cons rfl (.cons rfl (.cons rfl .nil))) (by kernel_rfl)) ?_
  refine sY (yv_buildSlice (ps := [(0, _)]) (rows := [[int 1, int 0, int 0, int 0, int 0, int 1, int 5, int 0, .sc (.slice none 0 0)]]) rfl Try.underlying22 bz28 (.cons rfl .nil) (by kernel_rfl) rfl rfl rfl) ?_
  refine tr tbk 5 (.mk ?_)
  obtain ⟨x1, e1, h0⟩ := bind_e h0
  refine sY (yv_callP rfl rfl (.cons rfl .nil) cal14 (.cons (CvLL.list (.cons (.cons (.refl _) (.cons (.refl _) (.cons (.refl _) (.cons (.refl _) (.cons (.refl _) (.cons (.refl _) (.cons (.refl _) (.cons (.refl _) (.cons (.nil _) .nil))))))))) .nil)) .nil) (d_ops_Bytes_c e1)) ?_
  obtain ⟨x2, e2, h0⟩ := bind_e h0
  refine sC cal10 (d_ops_Read_c e2) ?_
  refine tr tbk 7 (.mk ?_)
  refine jn h0 [] [] (fun (a : Bool) (k : Unit) => [(0, boo a)]) (fun a k => []) ⟨fun j3 h1 => ?_, ?_⟩
  refine tc tbk 2 (.mk ?_)
  refine sY (yv_indexAddr (j := 0) rfl Try.underlying22 sh28 rfl rfl rfl (.list rfl)) ?_
  refine tr tbk 1 (.mk ?_)
  obtain ⟨x4, e4, h1⟩ := bind_e h1
  refine sY (yv_callP rfl rfl (.cons rfl .nil) cal8 (.cons (CvL.agg (.cons (.refl _) (.cons (.refl _) (.cons (.refl _) (.cons (.refl _) (.cons (.refl _) (.cons (.refl _) (.cons (.refl _) (.cons (.refl _) (.cons (.nil _) .nil)))))))))) .nil) (d_ops_Check_c e4)) ?_
  refine tr tbk 1 (.mk ?_)
  cases x4
  replace h1 := cf h1
  refine tr tbk 24 (.mk ?_)
  exact lf h1 () leA
  replace h1 := ct h1
  refine tr tbk 1 (.mk ?_)
  refine nb tbk h1 fun x5 h1 => ?_
  refine tr tbk 2 (.mk ?_)
  cases x5
  replace h1 := cf h1
  refine tr tbk 20 (.mk ?_)
  exact lf h1 () leA
  replace h1 := ct h1
  refine tr tbk 2 (.mk ?_)
  obtain ⟨x6, e6, h1⟩ := bind_e h1
  refine sY (yv_callP rfl rfl (.cons rfl (.cons rfl .nil)) cal12 (.cons (CvLL.list (.cons (.cons (.refl _) (.cons (.refl _) (.cons (.refl _) (.cons (.refl _) (.cons (.refl _) (.cons (.refl _) (.cons (.refl _) (.cons (.refl _) (.cons (.nil _) .nil))))))))) .nil)) (.cons (.refl _) .nil)) (d_ops_Same_c e6)) ?_
  refine tr tbk 2 (.mk ?_)
  cases x6
  replace h1 := cf h1
  refine tr tbk 15 (.mk ?_)
  exact lf h1 () leA
  replace h1 := ct h1
  refine tr tbk 1 (.mk ?_)
  refine sY (yv_len_sl rfl Try.underlying22 rfl (lst_len _)) ?_
  refine nb tbk h1 fun x7 h1 => ?_
  refine tr tbk 2 (.mk ?_)
  cases x7
  replace h1 := cf h1
  refine tr tbk 10 (.mk ?_)
  exact lf h1 () leA
  replace h1 := ct h1
  obtain ⟨x8, e8, h1⟩ := bind_e h1
  refine sY (yv_callP rfl rfl (.cons rfl .nil) cal14 (.cons (.nil _) .nil) (d_ops_Bytes_c e8)) ?_
  obtain ⟨x9, e9, h1⟩ := bnd_e h1
  refine sY (yv_to (y := boo x9) (yv_seql rfl rfl rfl) (congrArg boo e9)) ?_
  refine tr tbk 2 (.mk ?_)
  cases x9
  replace h1 := cf h1
  refine tr tbk 6 (.mk ?_)
  exact lf h1 () leA
  replace h1 := ct h1
  refine sY (yv_build (cs := [int 0, int 0, int 0, int 0, int 0, int 0, int 0, int 0, .sc (.slice none 0 0)]) (ps := []) rfl pl28 z28 rfl .nil (by kernel_rfl)) ?_
  obtain ⟨x10, e10, h1⟩ := bind_e h1
  refine sY (yv_callP rfl rfl (.cons rfl .nil) cal8 (.cons (CvL.agg (.cons (.refl _) (.cons (.refl _) (.cons (.refl _) (.cons (.refl _) (.cons (.refl _) (.cons (.refl _) (.cons (.refl _) (.cons (.refl _) (.cons (.nil _) .nil)))))))))) .nil) (d_ops_Check_c e10)) ?_
  refine nb tbk h1 fun x11 h1 => ?_
  refine tr tbk 3 (.mk ?_)
  exact lf h1 () leA
  rintro y0_1 _ h0
  obtain rfl := nxt_e h0
  refine wR hret (rT .nil) ?_
  exact .refl _
def d_ref05_has (a1 : Int) : Option ((List UInt8)) :=
bnd (decide (a1 = 1)) fun x2 =>
(show Option (Bool) from
cond x2 (some (true : Bool)) (bnd (decide (a1 = 4)) fun x4 =>
some (x4 : Bool))).bind <| fun y0_1 =>
cond y0_1 (some ((([101, 105, 108, 113, 97] : List UInt8) : List UInt8))) (bnd (decide (a1 = 2)) fun x5 =>
(show Option (Bool) from
cond x5 (some (true : Bool)) (bnd (decide (a1 = 5)) fun x7 =>
some (x7 : Bool))).bind <| fun y1_1 =>
cond y1_1 (some ((([113, 97, 114] : List UInt8) : List UInt8))) (bnd (decide (a1 = 3)) fun x8 =>
cond x8 (some ((([113, 114] : List UInt8) : List UInt8))) (bnd (decide (a1 = 6)) fun x9 =>
(show Option (Bool) from
cond x9 (some (true : Bool)) (bnd (decide (a1 = 7)) fun x11 =>
some (x11 : Bool))).bind <| fun y2_1 =>
cond y2_1 (some ((([101, 105, 108, 113] : List UInt8) : List UInt8))) (bnd (decide (a1 = 8)) fun x12 =>
cond x12 (some ((([101, 105, 108, 116, 113] : List UInt8) : List UInt8))) (bnd (decide (a1 = 9)) fun x13 =>
(show Option (Bool) from
cond x13 (some (true : Bool)) (bnd (decide (a1 = 10)) fun x15 =>
some (x15 : Bool))).bind <| fun y3_1 =>
cond y3_1 (some ((([101, 105, 97] : List UInt8) : List UInt8))) (bnd (decide (a1 = 11)) fun x16 =>
cond x16 (some ((([116, 97, 115] : List UInt8) : List UInt8))) (bnd (decide (a1 = 12)) fun x17 =>
cond x17 (some ((([101, 105, 108, 116, 113, 97] : List UInt8) : List UInt8))) (bnd (decide (a1 = 13)) fun x18 =>
cond x18 (some ((([108, 113, 114] : List UInt8) : List UInt8))) (bnd (decide (a1 = 14)) fun x19 =>
(show Option (Bool) from
cond x19 (some (true : Bool)) (bnd (decide (a1 = 15)) fun x21 =>
cond x21 (some (true : Bool)) (bnd (decide (a1 = 16)) fun x22 =>
some (x22 : Bool)))).bind <| fun y4_1 =>
cond y4_1 (some ((([101] : List UInt8) : List UInt8))) (some ((([] : List UInt8) : List UInt8))))))))))))
theorem d_ref05_has_c {a1 : Int} {r : (List UInt8)} (h0 : d_ref05_has a1 = some r) : PP Try.prog 25 [int a1] (fun y => y = str r) := by
  unfold d_ref05_has at h0
  refine pp_of_pc (R0 := fun y H => Cv (frzH H) y (str r)) ?_ (fun y H hc => ⟨_, rfl, pvS r, hc⟩)
  refine pcw (c := _) Try.func25 rfl rfl ?_; intro Q hret hnorm
  refine tc tbk 13 (.mk ?_)
  refine nb tbk h0 fun x2 h0 => ?_
  refine tr tbk 2 (.mk ?_)
  refine jn h0 [2, 3] [] (fun (a : Bool) (k : Unit) => [(4, boo a)]) (fun a k => []) ⟨fun j3 h1 => ?_, ?_⟩
  cases x2
  replace h1 := cf h1
  refine tc tbk 2 (.mk ?_)
  refine nb tbk h1 fun x4 h1 => ?_
  refine tr tbk 2 (.mk ?_)
  exact lf h1 () leA
  replace h1 := ct h1
  refine tc tbk 2 (.mk ?_)
  exact lf h1 () leA
  rintro y0_1 _ h0
  cases y0_1
  replace h0 := cf h0
  refine tc tbk 4 (.mk ?_)
  refine nb tbk h0 fun x5 h0 => ?_
  refine tr tbk 2 (.mk ?_)
  refine jn h0 [2, 3] [] (fun (a : Bool) (k : Unit) => [(7, boo a)]) (fun a k => []) ⟨fun j6 h1 => ?_, ?_⟩
  cases x5
  replace h1 := cf h1
  refine tc tbk 2 (.mk ?_)
  refine nb tbk h1 fun x7 h1 => ?_
  refine tr tbk 2 (.mk ?_)
  exact lf h1 () leA
  replace h1 := ct h1
  refine tc tbk 2 (.mk ?_)
  exact lf h1 () leA
  rintro y1_1 _ h0
  cases y1_1
  replace h0 := cf h0
  refine tc tbk 3 (.mk ?_)
  refine nb tbk h0 fun x8 h0 => ?_
  refine tr tbk 2 (.mk ?_)
  cases x8
  replace h0 := cf h0
  refine tc tbk 4 (.mk ?_)
  refine nb tbk h0 fun x9 h0 => ?_
  refine tr tbk 2 (.mk ?_)
  refine jn h0 [2, 3] [] (fun (a : Bool) (k : Unit) => [(12, boo a)]) (fun a k => []) ⟨fun j10 h1 => ?_, ?_⟩
  cases x9
  replace h1 := cf h1
  refine tc tbk 2 (.mk ?_)
  refine nb tbk h1 fun x11 h1 => ?_
  refine tr tbk 2 (.mk ?_)
  exact lf h1 () leA
  replace h1 := ct h1
  refine tc tbk 2 (.mk ?_)
  exact lf h1 () leA
  rintro y2_1 _ h0
  cases y2_1
  replace h0 := cf h0
  refine tc tbk 3 (.mk ?_)
  refine nb tbk h0 fun x12 h0 => ?_
  refine tr tbk 2 (.mk ?_)
  cases x12
  replace h0 := cf h0
  refine tc tbk 4 (.mk ?_)
  refine nb tbk h0 fun x13 h0 => ?_
  refine tr tbk 2 (.mk ?_)
  refine jn h0 [2, 3] [] (fun (a : Bool) (k : Unit) => [(17, boo a)]) (fun a k => []) ⟨fun j14 h1 => ?_, ?_⟩
  cases x13
  replace h1 := cf h1
  refine tc tbk 2 (.mk ?_)
  refine nb tbk h1 fun x15 h1 => ?_
  refine tr tbk 2 (.mk ?_)
  exact lf h1 () leA
  replace h1 := ct h1
  refine tc tbk 2 (.mk ?_)
  exact lf h1 () leA
  rintro y3_1 _ h0
  cases y3_1
  replace h0 := cf h0
  refine tc tbk 3 (.mk ?_)
  refine nb tbk h0 fun x16 h0 => ?_
  refine tr tbk 2 (.mk ?_)
  cases x16
  replace h0 := cf h0
  refine tc tbk 3 (.mk ?_)
  refine nb tbk h0 fun x17 h0 => ?_
  refine tr tbk 2 (.mk ?_)
  cases x17
  replace h0 := cf h0
  refine tc tbk 3 (.mk ?_)
  refine nb tbk h0 fun x18 h0 => ?_
  refine tr tbk 2 (.mk ?_)
  cases x18
  replace h0 := cf h0
  refine tc tbk 4 (.mk ?_)
  refine nb tbk h0 fun x19 h0 => ?_
  refine tr tbk 2 (.mk ?_)
  refine jn h0 [2] [] (fun (a : Bool) (k : Unit) => [(26, boo a)]) (fun a k => []) ⟨fun j20 h1 => ?_, ?_⟩
  cases x19
  replace h1 := cf h1
  refine tc tbk 3 (.mk ?_)
  refine nb tbk h1 fun x21 h1 => ?_
  refine tr tbk 2 (.mk ?_)
  cases x21
  replace h1 := cf h1
  refine tc tbk 2 (.mk ?_)
  refine nb tbk h1 fun x22 h1 => ?_
  refine tr tbk 2 (.mk ?_)
  exact lf h1 () leA
  replace h1 := ct h1
  refine tc tbk 2 (.mk ?_)
  exact lf h1 () leA
  replace h1 := ct h1
  refine tc tbk 2 (.mk ?_)
  exact lf h1 () leA
  rintro y4_1 _ h0
  cases y4_1
  replace h0 := cf h0
  refine tc tbk 7 (.mk ?_)
  obtain rfl := nxt_e h0
  refine wR hret (rT .nil) ?_
  exact .refl _
  replace h0 := ct h0
  refine tc tbk 5 (.mk ?_)
  obtain rfl := nxt_e h0
  refine wR hret (rT .nil) ?_
  exact .refl _
  replace h0 := ct h0
  refine tc tbk 5 (.mk ?_)
  obtain rfl := nxt_e h0
  refine wR hret (rT .nil) ?_
  exact .refl _
  replace h0 := ct h0
  refine tc tbk 5 (.mk ?_)
  obtain rfl := nxt_e h0
  refine wR hret (rT .nil) ?_
  exact .refl _
  replace h0 := ct h0
  refine tc tbk 5 (.mk ?_)
  obtain rfl := nxt_e h0
  refine wR hret (rT .nil) ?_
  exact .refl _
  replace h0 := ct h0
  refine tc tbk 5 (.mk ?_)
  obtain rfl := nxt_e h0
  refine wR hret (rT .nil) ?_
  exact .refl _
  replace h0 := ct h0
  refine tc tbk 5 (.mk ?_)
  obtain rfl := nxt_e h0
  refine wR hret (rT .nil) ?_
  exact .refl _
  replace h0 := ct h0
  refine tc tbk 5 (.mk ?_)
  obtain rfl := nxt_e h0
  refine wR hret (rT .nil) ?_
  exact .refl _
  replace h0 := ct h0
  refine tc tbk 5 (.mk ?_)
  obtain rfl := nxt_e h0
  refine wR hret (rT .nil) ?_
  exact .refl _
  replace h0 := ct h0
  refine tc tbk 5 (.mk ?_)
  obtain rfl := nxt_e h0
  refine wR hret (rT .nil) ?_
  exact .refl _
  replace h0 := ct h0
  refine tc tbk 5 (.mk ?_)
  obtain rfl := nxt_e h0
  refine wR hret (rT .nil) ?_
  exact .refl _
def d_ref05_to (a1 : GOp) : Option (Bool) :=
bnd (decide (a1.Kind = 8)) fun x3 =>
cond x3 ((show Option (Bool) from
bnd (decide (a1.To ≥ 0)) fun x13 =>
cond x13 (bnd (decide (a1.To < 2)) fun x14 =>
cond x14 (bnd (decide (a1.To ≠ a1.Loc)) fun x15 =>
some (x15 : Bool)) (some (false : Bool))) (some (false : Bool))).bind <| fun y1_1 =>
some ((y1_1 : Bool))) (bnd (decide (a1.Kind = 12)) fun x4 =>
cond x4 ((show Option (Bool) from
bnd (decide (a1.To ≥ 0)) fun x9 =>
cond x9 (bnd (decide (a1.To < 4)) fun x10 =>
cond x10 (bnd (decide (a1.To ≠ a1.E)) fun x11 =>
some (x11 : Bool)) (some (false : Bool))) (some (false : Bool))).bind <| fun y0_1 =>
some ((y0_1 : Bool))) ((show Option (Bool) from
bnd (decide (a1.To ≥ 0)) fun x6 =>
cond x6 (bnd (decide (a1.To ≤ 2)) fun x7 =>
some (x7 : Bool)) (some (false : Bool))).bind <| fun y2_1 =>
some ((y2_1 : Bool))))
theorem d_ref05_to_c {a1 : GOp} {r : Bool} (h0 : d_ref05_to a1 = some r) : PP Try.prog 47 [.agg (GOp.av a1)] (fun y => y = boo r) := by
  unfold d_ref05_to at h0
  refine pp_of_pc (R0 := fun y H => Cv (frzH H) y (boo r)) ?_ (fun y H hc => ⟨_, rfl, pvB r, hc⟩)
  refine pcw (c := _) Try.func47 rfl rfl ?_; intro Q hret hnorm
  refine tc tbk 2 (.mk ?_)
  refine sB 1 fun v2 => ?_
  refine tr tbk 11 (.mk ?_)
  refine nb tbk h0 fun x3 h0 => ?_
  refine tr tbk 2 (.mk ?_)
  cases x3
  replace h0 := cf h0
  refine tc tbk 3 (.mk ?_)
  refine nb tbk h0 fun x4 h0 => ?_
  refine tr tbk 2 (.mk ?_)
  cases x4
  replace h0 := cf h0
  refine tc tbk 4 (.mk ?_)
  refine jn h0 [] [] (fun (a : Bool) (k : Unit) => [(2, boo a)]) (fun a k => []) ⟨fun j5 h1 => ?_, ?_⟩
  refine tc tbk 3 (.mk ?_)
  refine nb tbk h1 fun x6 h1 => ?_
  refine tr tbk 1 (.mk ?_)
  cases x6
  replace h1 := cf h1
  refine tr tbk 6 (.mk ?_)
  exact lf h1 () leA
  replace h1 := ct h1
  refine tr tbk 2 (.mk ?_)
  refine nb tbk h1 fun x7 h1 => ?_
  refine tr tbk 3 (.mk ?_)
  exact lf h1 () leA
  rintro y2_1 _ h0
  obtain rfl := nxt_e h0
  refine wR hret (rT .nil) ?_
  exact .refl _
  replace h0 := ct h0
  refine tc tbk 2 (.mk ?_)
  refine jn h0 [1] [1] (fun (a : Bool) (k : Unit) => [(2, boo a)]) (fun a k => []) ⟨fun j8 h1 => ?_, ?_⟩
  refine tc tbk 3 (.mk ?_)
  refine nb tbk h1 fun x9 h1 => ?_
  refine tr tbk 1 (.mk ?_)
  cases x9
  replace h1 := cf h1
  refine tr tbk 13 (.mk ?_)
  exact lf h1 () leA
  replace h1 := ct h1
  refine tr tbk 2 (.mk ?_)
  refine nb tbk h1 fun x10 h1 => ?_
  refine tr tbk 2 (.mk ?_)
  cases x10
  replace h1 := cf h1
  refine tr tbk 8 (.mk ?_)
  exact lf h1 () leA
  replace h1 := ct h1
  refine tr tbk 4 (.mk ?_)
  refine nb tbk h1 fun x11 h1 => ?_
  refine tr tbk 3 (.mk ?_)
  exact lf h1 () leA
  rintro y0_1 _ h0
  obtain rfl := nxt_e h0
  refine wR hret (rT .nil) ?_
  exact .refl _
  replace h0 := ct h0
  refine tc tbk 2 (.mk ?_)
  refine jn h0 [1] [1] (fun (a : Bool) (k : Unit) => [(2, boo a)]) (fun a k => []) ⟨fun j12 h1 => ?_, ?_⟩
  refine tc tbk 3 (.mk ?_)
  refine nb tbk h1 fun x13 h1 => ?_
  refine tr tbk 1 (.mk ?_)
  cases x13
  replace h1 := cf h1
  refine tr tbk 13 (.mk ?_)
  exact lf h1 () leA
  replace h1 := ct h1
  refine tr tbk 2 (.mk ?_)
  refine nb tbk h1 fun x14 h1 => ?_
  refine tr tbk 2 (.mk ?_)
  cases x14
  replace h1 := cf h1
  refine tr tbk 8 (.mk ?_)
  exact lf h1 () leA
  replace h1 := ct h1
  refine tr tbk 4 (.mk ?_)
  refine nb tbk h1 fun x15 h1 => ?_
  refine tr tbk 3 (.mk ?_)
  exact lf h1 () leA
  rintro y1_1 _ h0
  obtain rfl := nxt_e h0
  refine wR hret (rT .nil) ?_
  exact .refl _
def d_ref05_refs_L1 (a1 : List Int) (y0_1 : Int) : Nat → Int → Option ((Unit) ⊕ ((Unit) ⊕ ((Unit) ⊕ (Bool))))
  | 0, _ => none
  | n + 1, y2_1 =>
    bnd (decide (y2_1 < y0_1)) fun x11 =>
    cond x11 ((ix a1 y2_1).bind fun x12 =>
    (ix a1 y0_1).bind fun x13 =>
    bnd (decide (x12 = x13)) fun x14 =>
    cond x14 (esc (esc (esc (some ((false : Bool)))))) (bnd (w64 (y2_1 + 1)) fun x15 =>
    d_ref05_refs_L1 a1 y0_1 n (x15 : Int))) (brk ())
def d_ref05_refs_L0 (a1 : List Int) : Nat → Int → Option ((Unit) ⊕ (Bool))
  | 0, _ => none
  | n + 1, y0_1 =>
    bnd (decide (y0_1 < (a1.length : Int))) fun x3 =>
    cond x3 ((show Option ((Unit) ⊕ ((Unit) ⊕ (Bool))) from
    (show Option (Bool) from
    (ix a1 y0_1).bind fun x6 =>
    bnd (decide (x6 < 0)) fun x7 =>
    cond x7 (some (true : Bool)) ((ix a1 y0_1).bind fun x8 =>
    bnd (decide (x8 ≥ 40)) fun x9 =>
    some (x9 : Bool))).bind <| fun y1_1 =>
    cond y1_1 (esc (esc (some ((false : Bool))))) ((show Option ((Unit) ⊕ ((Unit) ⊕ ((Unit) ⊕ (Bool)))) from
    d_ref05_refs_L1 a1 y0_1 n (0 : Int)).bind <| sel <| fun _ =>
    brk ())).bind <| sel <| fun _ =>
    bnd (w64 (y0_1 + 1)) fun x21 =>
    d_ref05_refs_L0 a1 n (x21 : Int)) (brk ())
def d_ref05_refs (n : Nat) (a1 : List Int) : Option (Bool) :=
(show Option ((Unit) ⊕ (Bool)) from
d_ref05_refs_L0 a1 n (0 : Int)).bind <| sel <| fun _ =>
(show Option (Bool) from
bnd (decide ((a1.length : Int) ≥ 1)) fun x23 =>
cond x23 (bnd (decide ((a1.length : Int) ≤ 40)) fun x24 =>
some (x24 : Bool)) (some (false : Bool))).bind <| fun y6_1 =>
some ((y6_1 : Bool))
theorem d_ref05_refs_c {n : Nat} {a1 : List Int} {r : Bool} (h0 : d_ref05_refs n a1 = some r) : PP Try.prog 48 [lst 1 fI a1] (fun y => y = boo r) := by
  unfold d_ref05_refs at h0
  refine pp_of_pc (R0 := fun y H => Cv (frzH H) y (boo r)) ?_ (fun y H hc => ⟨_, rfl, pvB r, hc⟩)
  refine pcw (c := _) Try.func48 rfl rfl ?_; intro Q hret hnorm
  refine tc tbk 9 (.mk ?_)
  refine jnE h0 [0, 2] [] (fun (a : Unit) (k : Unit) => []) (fun a k => []) ⟨fun j2 h1 h0 => ?_, ?_⟩
  refine tc tbk 1 (.mk ?_)
  refine lp (fun n (a : Int) => d_ref05_refs_L0 a1 n a) (0 : Int) () h1 [0, 2] [] (fun (a : Int) (k : Unit) => [(3, int a)]) (fun a k => []) (fun _ => rfl) ⟨leA, ?_⟩
  rintro n y0_1 _ hm h1
  replace h1 : d_ref05_refs_L0 a1 (n + 1) y0_1 = some _ := h1
  rw [d_ref05_refs_L0] at h1
  refine tc tbk 5 (.mk ?_)
  refine sY (yv_len_sl rfl Try.underlying26 rfl (lst_len _)) ?_
  refine nb tbk h1 fun x3 h1 => ?_
  refine tr tbk 1 (.mk ?_)
  cases x3
  replace h1 := cf h1
  refine tc tbk 2 (.mk ?_)
  exact lfE h1 () leA
  replace h1 := ct h1
  refine tc tbk 3 (.mk ?_)
  refine jnE h1 [0, 2, 3] [] (fun (a : Unit) (k : Unit) => []) (fun a k => []) ⟨fun j4 h2 h1 => ?_, ?_⟩
  refine tc tbk 3 (.mk ?_)
  refine jn h2 [0, 2, 3] [] (fun (a : Bool) (k : Unit) => [(22, boo a)]) (fun a k => []) ⟨fun j5 h3 => ?_, ?_⟩
  refine tc tbk 3 (.mk ?_)
  obtain ⟨x6, e6, h3⟩ := bind_e h3
  refine sY (yv_ixT rfl Try.underlying26 sh3 rfl rfl e6) ?_
  refine tr tbk 1 (.mk ?_)
  refine nb tbk h3 fun x7 h3 => ?_
  refine tr tbk 1 (.mk ?_)
  cases x7
  replace h3 := cf h3
  refine tr tbk 2 (.mk ?_)
  obtain ⟨x8, e8, h3⟩ := bind_e h3
  refine sY (yv_ixT rfl Try.underlying26 sh3 rfl rfl e8) ?_
  refine tr tbk 1 (.mk ?_)
  refine nb tbk h3 fun x9 h3 => ?_
  refine tr tbk 2 (.mk ?_)
  exact lf h3 () leA
  replace h3 := ct h3
  refine tr tbk 7 (.mk ?_)
  exact lf h3 () leA
  rintro y1_1 _ h2
  cases y1_1
  replace h2 := cf h2
  refine tc tbk 6 (.mk ?_)
  refine jnE h2 [0, 2, 3] [] (fun (a : Unit) (k : Unit) => []) (fun a k => []) ⟨fun j10 h3 h2 => ?_, ?_⟩
  refine tc tbk 1 (.mk ?_)
  refine lp (fun n (a : Int) => d_ref05_refs_L1 a1 y0_1 n a) (0 : Int) () h3 [0, 2, 3] [] (fun (a : Int) (k : Unit) => [(4, int a)]) (fun a k => []) (fun _ => rfl) ⟨leA, ?_⟩
  rintro n y2_1 _ hm h3
  replace h3 : d_ref05_refs_L1 a1 y0_1 (n + 1) y2_1 = some _ := h3
  rw [d_ref05_refs_L1] at h3
  refine tc tbk 5 (.mk ?_)
  refine nb tbk h3 fun x11 h3 => ?_
  refine tr tbk 1 (.mk ?_)
  cases x11
  replace h3 := cf h3
  refine tc tbk 2 (.mk ?_)
  exact lfE h3 () leA
  replace h3 := ct h3
  refine tc tbk 5 (.mk ?_)
  refine c_drawE [0, 0, 3, 7, 0, 0, 48, 112, 255] (fun i => []) (fun i => []) (fun i => true) [0, 1, 2, 3, 4, 5, 6, 7, 8] mixed (by kernel_rfl) ?_; intro K hK
  iterate 2 refine eM ?_
  obtain ⟨x12, e12, h3⟩ := bind_e h3
  refine eP (fun H hH => yv_ixT rfl Try.underlying26 sh3 rfl rfl e12) ?_
  refine eP (fun H hH => yv_load rfl sh3 rfl (.pp _) rfl) ?_
  iterate 2 refine eM ?_
  obtain ⟨x13, e13, h3⟩ := bind_e h3
  refine eP (fun H hH => yv_ixT rfl Try.underlying26 sh3 rfl rfl e13) ?_
  refine eP (fun H hH => yv_load rfl sh3 rfl (.pp _) rfl) ?_
  obtain ⟨x14, e14, h3⟩ := bnd_e h3
  refine eP (fun H hH => yv_to (y := boo x14) (yv_eql rfl rfl rfl) (congrArg boo e14)) ?_
  refine de_nil (hK _ ?_)
  cases x14
  replace h3 := cf h3
  refine tc tbk 5 (.mk ?_)
  refine ni tbk h3 fun x15 h3 => ?_
  refine tr tbk 2 (.mk ?_)
  exact bk x15 () h3 leA
  replace h3 := ct h3
  refine tc tbk 5 (.mk ?_)
  obtain ⟨c16, hX, hj⟩ := esc_e h3; subst hj; replace h2 := hX.trans (sel_r h2)
  obtain ⟨c17, hX, hj⟩ := esc_e h2; subst hj; replace h1 := hX.trans (sel_r h1)
  obtain ⟨c18, hX, hj⟩ := esc_e h1; subst hj; replace h0 := hX.trans (sel_r h0)
  obtain rfl := nxt_e h0
  refine wR hret (rT .nil) ?_
  exact .refl _
  rintro _ _ h2
  refine tc tbk 1 (.mk ?_)
  exact lfE h2 () leA
  replace h2 := ct h2
  refine tc tbk 5 (.mk ?_)
  obtain ⟨c19, hX, hj⟩ := esc_e h2; subst hj; replace h1 := hX.trans (sel_r h1)
  obtain ⟨c20, hX, hj⟩ := esc_e h1; subst hj; replace h0 := hX.trans (sel_r h0)
  obtain rfl := nxt_e h0
  refine wR hret (rT .nil) ?_
  exact .refl _
  rintro _ _ h1
  refine tc tbk 2 (.mk ?_)
  refine ni tbk h1 fun x21 h1 => ?_
  refine tr tbk 2 (.mk ?_)
  exact bk x21 () h1 leA
  rintro _ _ h0
  refine tc tbk 1 (.mk ?_)
  refine jn h0 [] [] (fun (a : Bool) (k : Unit) => [(2, boo a)]) (fun a k => []) ⟨fun j22 h1 => ?_, ?_⟩
  refine tc tbk 2 (.mk ?_)
  refine sY (yv_len_sl rfl Try.underlying26 rfl (lst_len _)) ?_
  refine nb tbk h1 fun x23 h1 => ?_
  refine tr tbk 1 (.mk ?_)
  cases x23
  replace h1 := cf h1
  refine tr tbk 6 (.mk ?_)
  exact lf h1 () leA
  replace h1 := ct h1
  refine tr tbk 1 (.mk ?_)
  refine sY (yv_len_sl rfl Try.underlying26 rfl (lst_len _)) ?_
  refine nb tbk h1 fun x24 h1 => ?_
  refine tr tbk 3 (.mk ?_)
  exact lf h1 () leA
  rintro y6_1 _ h0
  obtain rfl := nxt_e h0
  refine wR hret (rT .nil) ?_
  exact .refl _
end Go.Pv
