import Derived.Test.YtpbcnilkippahaaK53
set_option linter.unusedVariables false
namespace Go.Pv
open Go.Proofs
set_option maxRecDepth 10000
set_option maxHeartbeats 1000000
def d_ops_Read_L0 (x6 : Int) : Nat → Int → GReader → (List GOp) → Option (GReader × (List GOp))
  | 0, _, _, _ => none
  | n + 1, y1_2, y1_3, y1_4 =>
    bnd (decide (y1_2 < x6)) fun x10 =>
    cond x10 ((show Option (GReader × (List GOp)) from
    asrt (((y1_3.s, y1_3.bad) : RS).1.length ≤ 9223372036854775806) <|
    bnd (cntV ((y1_3.s, y1_3.bad) : RS) 16) fun x13 =>
    bnd (cntR ((y1_3.s, y1_3.bad) : RS) 16) fun x14 =>
    bnd (decide (x13 = 0)) fun x16 =>
    cond x16 ((show Option (Bool) from
    bnd x14.2 fun x371 =>
    cond x371 (some (true : Bool)) ((d_ops_Check n (⟨x13, 0, 0, 0, 0, 0, 0, 0, []⟩ : GOp)).bind fun x372 =>
    bnd (!x372) fun x373 =>
    some (x373 : Bool))).bind <| fun y3_1 =>
    asrt (y3_1 = false) <|
    bnd (y1_4 ++ [(⟨x13, 0, 0, 0, 0, 0, 0, 0, []⟩ : GOp)]) fun x374 =>
    asrt (x374.length ≤ 68719476736) <|
    some (((⟨x14.1, x14.2⟩ : GReader) : GReader), (x374 : List GOp))) (bnd (decide (x13 = 1)) fun x17 =>
    cond x17 ((show Option ((Unit)) from
    some ()).bind <| fun _ =>
    asrt (x14.1.length ≤ 9223372036854775806) <|
    bnd (numV x14) fun x344 =>
    bnd (numR x14) fun x345 =>
    (show Option ((Unit)) from
    some ()).bind <| fun _ =>
    asrt (x345.1.length ≤ 9223372036854775806) <|
    bnd (numV x345) fun x348 =>
    bnd (numR x345) fun x349 =>
    (show Option ((Unit)) from
    some ()).bind <| fun _ =>
    asrt (x349.1.length ≤ 9223372036854775806) <|
    bnd (numV x349) fun x352 =>
    bnd (numR x349) fun x353 =>
    (show Option ((Unit)) from
    some ()).bind <| fun _ =>
    asrt (x353.1.length ≤ 9223372036854775806) <|
    bnd (numV x353) fun x356 =>
    bnd (numR x353) fun x357 =>
    (show Option ((Unit)) from
    some ()).bind <| fun _ =>
    asrt (x357.1.length ≤ 9223372036854775806) <|
    bnd (numV x357) fun x360 =>
    bnd (numR x357) fun x361 =>
    (show Option (Bool) from
    bnd x361.2 fun x363 =>
    cond x363 (some (true : Bool)) ((d_ops_Check n (⟨x13, x344, x348, x352, 0, x356, x360, 0, []⟩ : GOp)).bind fun x364 =>
    bnd (!x364) fun x365 =>
    some (x365 : Bool))).bind <| fun y3_1 =>
    asrt (y3_1 = false) <|
    bnd (y1_4 ++ [(⟨x13, x344, x348, x352, 0, x356, x360, 0, []⟩ : GOp)]) fun x366 =>
    asrt (x366.length ≤ 68719476736) <|
    some (((⟨x361.1, x361.2⟩ : GReader) : GReader), (x366 : List GOp))) (bnd (decide (x13 = 2)) fun x18 =>
    cond x18 ((show Option ((Unit)) from
    some ()).bind <| fun _ =>
    asrt (x14.1.length ≤ 9223372036854775806) <|
    bnd (numV x14) fun x324 =>
    bnd (numR x14) fun x325 =>
    (show Option ((Unit)) from
    some ()).bind <| fun _ =>
    asrt (x325.1.length ≤ 9223372036854775806) <|
    bnd (numV x325) fun x328 =>
    bnd (numR x325) fun x329 =>
    (show Option ((Unit)) from
    some ()).bind <| fun _ =>
    asrt (x329.1.length ≤ 9223372036854775806) <|
    bnd (numV x329) fun x332 =>
    bnd (numR x329) fun x333 =>
    (show Option (Bool) from
    bnd x333.2 fun x335 =>
    cond x335 (some (true : Bool)) ((d_ops_Check n (⟨x13, 0, 0, 0, 0, x324, x328, x332, []⟩ : GOp)).bind fun x336 =>
    bnd (!x336) fun x337 =>
    some (x337 : Bool))).bind <| fun y3_1 =>
    asrt (y3_1 = false) <|
    bnd (y1_4 ++ [(⟨x13, 0, 0, 0, 0, x324, x328, x332, []⟩ : GOp)]) fun x338 =>
    asrt (x338.length ≤ 68719476736) <|
    some (((⟨x333.1, x333.2⟩ : GReader) : GReader), (x338 : List GOp))) (bnd (decide (x13 = 3)) fun x19 =>
    cond x19 ((show Option ((Unit)) from
    some ()).bind <| fun _ =>
    asrt (x14.1.length ≤ 9223372036854775806) <|
    bnd (numV x14) fun x308 =>
    bnd (numR x14) fun x309 =>
    (show Option ((Unit)) from
    some ()).bind <| fun _ =>
    asrt (x309.1.length ≤ 9223372036854775806) <|
    bnd (numV x309) fun x312 =>
    bnd (numR x309) fun x313 =>
    (show Option (Bool) from
    bnd x313.2 fun x315 =>
    cond x315 (some (true : Bool)) ((d_ops_Check n (⟨x13, 0, 0, 0, 0, x308, 0, x312, []⟩ : GOp)).bind fun x316 =>
    bnd (!x316) fun x317 =>
    some (x317 : Bool))).bind <| fun y3_1 =>
    asrt (y3_1 = false) <|
    bnd (y1_4 ++ [(⟨x13, 0, 0, 0, 0, x308, 0, x312, []⟩ : GOp)]) fun x318 =>
    asrt (x318.length ≤ 68719476736) <|
    some (((⟨x313.1, x313.2⟩ : GReader) : GReader), (x318 : List GOp))) (bnd (decide (x13 = 4)) fun x20 =>
    cond x20 ((show Option ((Unit)) from
    some ()).bind <| fun _ =>
    asrt (x14.1.length ≤ 9223372036854775806) <|
    bnd (numV x14) fun x280 =>
    bnd (numR x14) fun x281 =>
    (show Option ((Unit)) from
    some ()).bind <| fun _ =>
    asrt (x281.1.length ≤ 9223372036854775806) <|
    bnd (numV x281) fun x284 =>
    bnd (numR x281) fun x285 =>
    (show Option ((Unit)) from
    some ()).bind <| fun _ =>
    asrt (x285.1.length ≤ 9223372036854775806) <|
    bnd (numV x285) fun x288 =>
    bnd (numR x285) fun x289 =>
    (show Option ((Unit)) from
    some ()).bind <| fun _ =>
    asrt (x289.1.length ≤ 9223372036854775806) <|
    bnd (numV x289) fun x292 =>
    bnd (numR x289) fun x293 =>
    (show Option ((Unit)) from
    some ()).bind <| fun _ =>
    asrt (x293.1.length ≤ 9223372036854775806) <|
    bnd (numV x293) fun x296 =>
    bnd (numR x293) fun x297 =>
    (show Option (Bool) from
    bnd x297.2 fun x299 =>
    cond x299 (some (true : Bool)) ((d_ops_Check n (⟨x13, x280, x284, x288, 0, x292, x296, 0, []⟩ : GOp)).bind fun x300 =>
    bnd (!x300) fun x301 =>
    some (x301 : Bool))).bind <| fun y3_1 =>
    asrt (y3_1 = false) <|
    bnd (y1_4 ++ [(⟨x13, x280, x284, x288, 0, x292, x296, 0, []⟩ : GOp)]) fun x302 =>
    asrt (x302.length ≤ 68719476736) <|
    some (((⟨x297.1, x297.2⟩ : GReader) : GReader), (x302 : List GOp))) (bnd (decide (x13 = 5)) fun x21 =>
    cond x21 ((show Option ((Unit)) from
    some ()).bind <| fun _ =>
    asrt (x14.1.length ≤ 9223372036854775806) <|
    bnd (numV x14) fun x260 =>
    bnd (numR x14) fun x261 =>
    (show Option ((Unit)) from
    some ()).bind <| fun _ =>
    asrt (x261.1.length ≤ 9223372036854775806) <|
    bnd (numV x261) fun x264 =>
    bnd (numR x261) fun x265 =>
    (show Option ((Unit)) from
    some ()).bind <| fun _ =>
    asrt (x265.1.length ≤ 9223372036854775806) <|
    bnd (numV x265) fun x268 =>
    bnd (numR x265) fun x269 =>
    (show Option (Bool) from
    bnd x269.2 fun x271 =>
    cond x271 (some (true : Bool)) ((d_ops_Check n (⟨x13, 0, 0, 0, 0, x260, x264, x268, []⟩ : GOp)).bind fun x272 =>
    bnd (!x272) fun x273 =>
    some (x273 : Bool))).bind <| fun y3_1 =>
    asrt (y3_1 = false) <|
    bnd (y1_4 ++ [(⟨x13, 0, 0, 0, 0, x260, x264, x268, []⟩ : GOp)]) fun x274 =>
    asrt (x274.length ≤ 68719476736) <|
    some (((⟨x269.1, x269.2⟩ : GReader) : GReader), (x274 : List GOp))) (bnd (decide (x13 = 6)) fun x22 =>
    cond x22 ((show Option ((Unit)) from
    some ()).bind <| fun _ =>
    asrt (x14.1.length ≤ 9223372036854775806) <|
    bnd (numV x14) fun x236 =>
    bnd (numR x14) fun x237 =>
    (show Option ((Unit)) from
    some ()).bind <| fun _ =>
    asrt (x237.1.length ≤ 9223372036854775806) <|
    bnd (numV x237) fun x240 =>
    bnd (numR x237) fun x241 =>
    (show Option ((Unit)) from
    some ()).bind <| fun _ =>
    asrt (x241.1.length ≤ 9223372036854775806) <|
    bnd (numV x241) fun x244 =>
    bnd (numR x241) fun x245 =>
    (show Option ((Unit)) from
    some ()).bind <| fun _ =>
    asrt (x245.1.length ≤ 9223372036854775806) <|
    bnd (numV x245) fun x248 =>
    bnd (numR x245) fun x249 =>
    (show Option (Bool) from
    bnd x249.2 fun x251 =>
    cond x251 (some (true : Bool)) ((d_ops_Check n (⟨x13, x236, x240, x244, 0, x248, 0, 0, []⟩ : GOp)).bind fun x252 =>
    bnd (!x252) fun x253 =>
    some (x253 : Bool))).bind <| fun y3_1 =>
    asrt (y3_1 = false) <|
    bnd (y1_4 ++ [(⟨x13, x236, x240, x244, 0, x248, 0, 0, []⟩ : GOp)]) fun x254 =>
    asrt (x254.length ≤ 68719476736) <|
    some (((⟨x249.1, x249.2⟩ : GReader) : GReader), (x254 : List GOp))) (bnd (decide (x13 = 7)) fun x23 =>
    cond x23 ((show Option ((Unit)) from
    some ()).bind <| fun _ =>
    asrt (x14.1.length ≤ 9223372036854775806) <|
    bnd (numV x14) fun x212 =>
    bnd (numR x14) fun x213 =>
    (show Option ((Unit)) from
    some ()).bind <| fun _ =>
    asrt (x213.1.length ≤ 9223372036854775806) <|
    bnd (numV x213) fun x216 =>
    bnd (numR x213) fun x217 =>
    (show Option ((Unit)) from
    some ()).bind <| fun _ =>
    asrt (x217.1.length ≤ 9223372036854775806) <|
    bnd (numV x217) fun x220 =>
    bnd (numR x217) fun x221 =>
    (show Option ((Unit)) from
    some ()).bind <| fun _ =>
    asrt (x221.1.length ≤ 9223372036854775806) <|
    bnd (numV x221) fun x224 =>
    bnd (numR x221) fun x225 =>
    (show Option (Bool) from
    bnd x225.2 fun x227 =>
    cond x227 (some (true : Bool)) ((d_ops_Check n (⟨x13, x212, x216, x220, 0, x224, 0, 0, []⟩ : GOp)).bind fun x228 =>
    bnd (!x228) fun x229 =>
    some (x229 : Bool))).bind <| fun y3_1 =>
    asrt (y3_1 = false) <|
    bnd (y1_4 ++ [(⟨x13, x212, x216, x220, 0, x224, 0, 0, []⟩ : GOp)]) fun x230 =>
    asrt (x230.length ≤ 68719476736) <|
    some (((⟨x225.1, x225.2⟩ : GReader) : GReader), (x230 : List GOp))) (bnd (decide (x13 = 8)) fun x24 =>
    cond x24 ((show Option ((Unit)) from
    some ()).bind <| fun _ =>
    asrt (x14.1.length ≤ 9223372036854775806) <|
    bnd (numV x14) fun x184 =>
    bnd (numR x14) fun x185 =>
    (show Option ((Unit)) from
    some ()).bind <| fun _ =>
    asrt (x185.1.length ≤ 9223372036854775806) <|
    bnd (numV x185) fun x188 =>
    bnd (numR x185) fun x189 =>
    (show Option ((Unit)) from
    some ()).bind <| fun _ =>
    asrt (x189.1.length ≤ 9223372036854775806) <|
    bnd (numV x189) fun x192 =>
    bnd (numR x189) fun x193 =>
    (show Option ((Unit)) from
    some ()).bind <| fun _ =>
    asrt (x193.1.length ≤ 9223372036854775806) <|
    bnd (numV x193) fun x196 =>
    bnd (numR x193) fun x197 =>
    (show Option ((Unit)) from
    some ()).bind <| fun _ =>
    asrt (x197.1.length ≤ 9223372036854775806) <|
    bnd (numV x197) fun x200 =>
    bnd (numR x197) fun x201 =>
    (show Option (Bool) from
    bnd x201.2 fun x203 =>
    cond x203 (some (true : Bool)) ((d_ops_Check n (⟨x13, x184, x188, x192, x196, x200, 0, 0, []⟩ : GOp)).bind fun x204 =>
    bnd (!x204) fun x205 =>
    some (x205 : Bool))).bind <| fun y3_1 =>
    asrt (y3_1 = false) <|
    bnd (y1_4 ++ [(⟨x13, x184, x188, x192, x196, x200, 0, 0, []⟩ : GOp)]) fun x206 =>
    asrt (x206.length ≤ 68719476736) <|
    some (((⟨x201.1, x201.2⟩ : GReader) : GReader), (x206 : List GOp))) (bnd (decide (x13 = 9)) fun x25 =>
    cond x25 ((show Option ((Unit)) from
    some ()).bind <| fun _ =>
    asrt (x14.1.length ≤ 9223372036854775806) <|
    bnd (numV x14) fun x164 =>
    bnd (numR x14) fun x165 =>
    (show Option ((Unit)) from
    some ()).bind <| fun _ =>
    asrt (x165.1.length ≤ 9223372036854775806) <|
    bnd (numV x165) fun x168 =>
    bnd (numR x165) fun x169 =>
    (show Option ((Unit)) from
    some ()).bind <| fun _ =>
    asrt (x169.1.length ≤ 9223372036854775806) <|
    bnd (numV x169) fun x172 =>
    bnd (numR x169) fun x173 =>
    (show Option (Bool) from
    bnd x173.2 fun x175 =>
    cond x175 (some (true : Bool)) ((d_ops_Check n (⟨x13, x164, x168, 0, 0, 0, x172, 0, []⟩ : GOp)).bind fun x176 =>
    bnd (!x176) fun x177 =>
    some (x177 : Bool))).bind <| fun y3_1 =>
    asrt (y3_1 = false) <|
    bnd (y1_4 ++ [(⟨x13, x164, x168, 0, 0, 0, x172, 0, []⟩ : GOp)]) fun x178 =>
    asrt (x178.length ≤ 68719476736) <|
    some (((⟨x173.1, x173.2⟩ : GReader) : GReader), (x178 : List GOp))) (bnd (decide (x13 = 10)) fun x26 =>
    cond x26 ((show Option ((Unit)) from
    some ()).bind <| fun _ =>
    asrt (x14.1.length ≤ 9223372036854775806) <|
    bnd (numV x14) fun x144 =>
    bnd (numR x14) fun x145 =>
    (show Option ((Unit)) from
    some ()).bind <| fun _ =>
    asrt (x145.1.length ≤ 9223372036854775806) <|
    bnd (numV x145) fun x148 =>
    bnd (numR x145) fun x149 =>
    (show Option ((Unit)) from
    some ()).bind <| fun _ =>
    asrt (x149.1.length ≤ 9223372036854775806) <|
    bnd (numV x149) fun x152 =>
    bnd (numR x149) fun x153 =>
    (show Option (Bool) from
    bnd x153.2 fun x155 =>
    cond x155 (some (true : Bool)) ((d_ops_Check n (⟨x13, x144, x148, 0, 0, 0, x152, 0, []⟩ : GOp)).bind fun x156 =>
    bnd (!x156) fun x157 =>
    some (x157 : Bool))).bind <| fun y3_1 =>
    asrt (y3_1 = false) <|
    bnd (y1_4 ++ [(⟨x13, x144, x148, 0, 0, 0, x152, 0, []⟩ : GOp)]) fun x158 =>
    asrt (x158.length ≤ 68719476736) <|
    some (((⟨x153.1, x153.2⟩ : GReader) : GReader), (x158 : List GOp))) (bnd (decide (x13 = 11)) fun x27 =>
    cond x27 ((show Option ((Unit)) from
    some ()).bind <| fun _ =>
    asrt (x14.1.length ≤ 9223372036854775806) <|
    bnd (numV x14) fun x124 =>
    bnd (numR x14) fun x125 =>
    (show Option ((Unit)) from
    some ()).bind <| fun _ =>
    asrt (x125.1.length ≤ 9223372036854775806) <|
    bnd (numV x125) fun x128 =>
    bnd (numR x125) fun x129 =>
    asrt (x129.1.length ≤ 1099511627776) <|
    asrt (x129.2 = true → x129.1 = []) <|
    bnd (lstV x129 40) fun x132 =>
    bnd (lstR x129 40) fun x133 =>
    (show Option (Bool) from
    bnd x133.2 fun x135 =>
    cond x135 (some (true : Bool)) ((d_ops_Check n (⟨x13, 0, 0, 0, x124, 0, x128, 0, x132⟩ : GOp)).bind fun x136 =>
    bnd (!x136) fun x137 =>
    some (x137 : Bool))).bind <| fun y3_1 =>
    asrt (y3_1 = false) <|
    bnd (y1_4 ++ ([(⟨x13, 0, 0, 0, x124, 0, x128, 0, x132⟩ : GOp)] : List GOp)) fun x138 =>
    asrt (x138.length ≤ 68719476736) <|
    some (((⟨x133.1, x133.2⟩ : GReader) : GReader), (x138 : List GOp))) (bnd (decide (x13 = 12)) fun x28 =>
    cond x28 ((show Option ((Unit)) from
    some ()).bind <| fun _ =>
    asrt (x14.1.length ≤ 9223372036854775806) <|
    bnd (numV x14) fun x92 =>
    bnd (numR x14) fun x93 =>
    (show Option ((Unit)) from
    some ()).bind <| fun _ =>
    asrt (x93.1.length ≤ 9223372036854775806) <|
    bnd (numV x93) fun x96 =>
    bnd (numR x93) fun x97 =>
    (show Option ((Unit)) from
    some ()).bind <| fun _ =>
    asrt (x97.1.length ≤ 9223372036854775806) <|
    bnd (numV x97) fun x100 =>
    bnd (numR x97) fun x101 =>
    (show Option ((Unit)) from
    some ()).bind <| fun _ =>
    asrt (x101.1.length ≤ 9223372036854775806) <|
    bnd (numV x101) fun x104 =>
    bnd (numR x101) fun x105 =>
    (show Option ((Unit)) from
    some ()).bind <| fun _ =>
    asrt (x105.1.length ≤ 9223372036854775806) <|
    bnd (numV x105) fun x108 =>
    bnd (numR x105) fun x109 =>
    (show Option ((Unit)) from
    some ()).bind <| fun _ =>
    asrt (x109.1.length ≤ 9223372036854775806) <|
    bnd (numV x109) fun x112 =>
    bnd (numR x109) fun x113 =>
    (show Option (Bool) from
    bnd x113.2 fun x115 =>
    cond x115 (some (true : Bool)) ((d_ops_Check n (⟨x13, x92, x96, x100, x104, x108, x112, 0, []⟩ : GOp)).bind fun x116 =>
    bnd (!x116) fun x117 =>
    some (x117 : Bool))).bind <| fun y3_1 =>
    asrt (y3_1 = false) <|
    bnd (y1_4 ++ [(⟨x13, x92, x96, x100, x104, x108, x112, 0, []⟩ : GOp)]) fun x118 =>
    asrt (x118.length ≤ 68719476736) <|
    some (((⟨x113.1, x113.2⟩ : GReader) : GReader), (x118 : List GOp))) (bnd (decide (x13 = 13)) fun x29 =>
    cond x29 ((show Option ((Unit)) from
    some ()).bind <| fun _ =>
    asrt (x14.1.length ≤ 9223372036854775806) <|
    bnd (numV x14) fun x72 =>
    bnd (numR x14) fun x73 =>
    (show Option ((Unit)) from
    some ()).bind <| fun _ =>
    asrt (x73.1.length ≤ 9223372036854775806) <|
    bnd (numV x73) fun x76 =>
    bnd (numR x73) fun x77 =>
    (show Option ((Unit)) from
    some ()).bind <| fun _ =>
    asrt (x77.1.length ≤ 9223372036854775806) <|
    bnd (numV x77) fun x80 =>
    bnd (numR x77) fun x81 =>
    (show Option (Bool) from
    bnd x81.2 fun x83 =>
    cond x83 (some (true : Bool)) ((d_ops_Check n (⟨x13, 0, 0, x72, 0, x76, 0, x80, []⟩ : GOp)).bind fun x84 =>
    bnd (!x84) fun x85 =>
    some (x85 : Bool))).bind <| fun y3_1 =>
    asrt (y3_1 = false) <|
    bnd (y1_4 ++ [(⟨x13, 0, 0, x72, 0, x76, 0, x80, []⟩ : GOp)]) fun x86 =>
    asrt (x86.length ≤ 68719476736) <|
    some (((⟨x81.1, x81.2⟩ : GReader) : GReader), (x86 : List GOp))) (bnd (decide (x13 = 14)) fun x30 =>
    cond x30 ((show Option ((Unit)) from
    some ()).bind <| fun _ =>
    asrt (x14.1.length ≤ 9223372036854775806) <|
    bnd (numV x14) fun x60 =>
    bnd (numR x14) fun x61 =>
    (show Option (Bool) from
    bnd x61.2 fun x63 =>
    cond x63 (some (true : Bool)) ((d_ops_Check n (⟨x13, x60, 0, 0, 0, 0, 0, 0, []⟩ : GOp)).bind fun x64 =>
    bnd (!x64) fun x65 =>
    some (x65 : Bool))).bind <| fun y3_1 =>
    asrt (y3_1 = false) <|
    bnd (y1_4 ++ [(⟨x13, x60, 0, 0, 0, 0, 0, 0, []⟩ : GOp)]) fun x66 =>
    asrt (x66.length ≤ 68719476736) <|
    some (((⟨x61.1, x61.2⟩ : GReader) : GReader), (x66 : List GOp))) (bnd (decide (x13 = 15)) fun x31 =>
    cond x31 ((show Option ((Unit)) from
    some ()).bind <| fun _ =>
    asrt (x14.1.length ≤ 9223372036854775806) <|
    bnd (numV x14) fun x48 =>
    bnd (numR x14) fun x49 =>
    (show Option (Bool) from
    bnd x49.2 fun x51 =>
    cond x51 (some (true : Bool)) ((d_ops_Check n (⟨x13, x48, 0, 0, 0, 0, 0, 0, []⟩ : GOp)).bind fun x52 =>
    bnd (!x52) fun x53 =>
    some (x53 : Bool))).bind <| fun y3_1 =>
    asrt (y3_1 = false) <|
    bnd (y1_4 ++ [(⟨x13, x48, 0, 0, 0, 0, 0, 0, []⟩ : GOp)]) fun x54 =>
    asrt (x54.length ≤ 68719476736) <|
    some (((⟨x49.1, x49.2⟩ : GReader) : GReader), (x54 : List GOp))) (asrt (x13 = 16) <|
    (show Option ((Unit)) from
    some ()).bind <| fun _ =>
    asrt (x14.1.length ≤ 9223372036854775806) <|
    bnd (numV x14) fun x36 =>
    bnd (numR x14) fun x37 =>
    (show Option (Bool) from
    bnd x37.2 fun x39 =>
    cond x39 (some (true : Bool)) ((d_ops_Check n (⟨x13, x36, 0, 0, 0, 0, 0, 0, []⟩ : GOp)).bind fun x40 =>
    bnd (!x40) fun x41 =>
    some (x41 : Bool))).bind <| fun y3_1 =>
    asrt (y3_1 = false) <|
    bnd (y1_4 ++ [(⟨x13, x36, 0, 0, 0, 0, 0, 0, []⟩ : GOp)]) fun x42 =>
    asrt (x42.length ≤ 68719476736) <|
    some (((⟨x37.1, x37.2⟩ : GReader) : GReader), (x42 : List GOp))))))))))))))))))).bind <| p2 fun (y4_2 : GReader) (y4_3 : List GOp) =>
    bnd (w64 (y1_2 + 1)) fun x377 =>
    d_ops_Read_L0 x6 n (x377 : Int) (y4_2 : GReader) (y4_3 : List GOp)) (some ((y1_3 : GReader), (y1_4 : List GOp)))
def d_ops_Read (n : Nat) (a1 : List UInt8) : Option ((List GOp) × Int) :=
bnd (decide ((a1.length : Int) > 131072)) fun x2 =>
asrt (x2 = false) <|
(show Option ((Unit)) from
some ()).bind <| fun _ =>
asrt (((a1, false) : RS).1.length ≤ 9223372036854775806) <|
bnd (cntV ((a1, false) : RS) 400) fun x6 =>
bnd (cntR ((a1, false) : RS) 400) fun x7 =>
(show Option (GReader × (List GOp)) from
d_ops_Read_L0 x6 n (0 : Int) ((⟨x7.1, x7.2⟩ : GReader) : GReader) (([] : List GOp) : List GOp)).bind <| p2 fun (y6_2 : GReader) (y6_3 : List GOp) =>
(show Option (Bool) from
bnd (((y6_2.s, y6_2.bad) : RS).2) fun x379 =>
cond x379 (some (true : Bool)) (bnd (decide ((((y6_2.s, y6_2.bad) : RS).1.length : Int) > 0)) fun x380 =>
some (x380 : Bool))).bind <| fun y7_1 =>
asrt (y7_1 = false) <|
some ((y6_3 : List GOp), (0 : Int))
theorem d_ops_Read_c {n : Nat} {a1 : List UInt8} {r : (List GOp) × Int} (h0 : d_ops_Read n a1 = some r) : PP Try.prog 10 [str a1] (fun y => y = .tup [lst 9 GOp.av r.1, int r.2]) := by
  unfold d_ops_Read at h0
  refine pp_of_pc (R0 := fun y H => Cv (frzH H) y (.tup [lst 9 GOp.av r.1, int r.2])) ?_ (fun y H hc => ⟨_, rfl, .tup (pvl2 ((pvLs GOp.pvc) (r.1)) (pvI (r.2))), hc⟩)
  refine pcw (c := _) Try.func10 rfl rfl ?_; intro Q hret hnorm
  refine tc tbk 9 (.mk ?_)
  refine sY (yv_len_str rfl Try.underlying9 rfl) ?_
  refine nb tbk h0 fun x2 h0 => ?_
  refine tr tbk 1 (.mk ?_)
  replace h0 := asrt_e h0
  obtain ⟨rfl, h0⟩ := h0
  refine tc tbk 5 (.mk ?_)
  obtain ⟨j3, h1, h0⟩ := bind_e h0
  refine rse (Out := fun y H' => (∃ (a : Unit) (k : Nat), a = j3 ∧ y = .pt 1 k 0 0 ∧ H' = hk [(1, ⟨87, 2, true, true, k, [[str a1, boo false]]⟩)])) rfl rfl rfl (yl_call rfl rfl (.cons rfl .nil) cal28 ?_) ?_
  refine pcw (c := _) Try.func28 rfl rfl ?_; intro Q hret hnorm
  refine tc tbk 8 (.mk ?_)
  refine sB 1 fun v4 => ?_
  refine tr tbk 2 (.mk ?_)
  obtain rfl := nxt_e h1
  refine w_ret (hret _ _ (hk [(1, ⟨87, 2, true, true, v4, [[str a1, boo false]]⟩)]) (.tmp rfl .nil) (HK.le ⟨rfl, trivial⟩) ?_)
  exact ⟨(), v4, rfl, rfl, rfl⟩
  rintro y _ ⟨_, w0_1, rfl, hc, rfl⟩
  subst hc
  refine tr tbk 10 (.mk ?_)
  obtain ⟨p5, h0⟩ := asrt_e h0
  obtain ⟨x6, e6, h0⟩ := bnd_e h0
  obtain ⟨x7, e7, h0⟩ := bnd_e h0
  refine rse rfl rfl rfl (yl_call rfl rfl (.cons rfl (.cons rfl .nil)) cal29 (PC.mono (countP_c (most := 400) (s := ((a1, false) : RS)) (id := 1) (ver := w0_1) rfl p5) (R' := fun y H' => y = int x6 ∧ H' = upd _ 1 (some (rdr 87 w0_1 x7))) (fun y H' h => ⟨h.1.trans (congrArg int e6), h.2.trans (rdr_cong e7)⟩))) ?_; rintro _ _ ⟨rfl, rfl⟩
  refine tr tbk 2 (.mk ?_)
  refine jn h0 [2, 3, 4] [] (fun (a : GReader × (List GOp)) (k : Nat) => [(5, .sl 4 k 0 a.2.length)]) (fun a k => [(1, ⟨87, 2, true, true, w0_1, [[str a.1.s, boo a.1.bad]]⟩), (4, ⟨28, 9, true, true, k, a.2.map GOp.av⟩)]) ⟨fun j8 h1 => ?_, ?_⟩
  refine tc tbk 1 (.mk ?_)
  refine c_nilobj 5 4 28 9 rfl rfl ?_; intro v9
  refine lp (fun n (a : Int × GReader × (List GOp)) => d_ops_Read_L0 x6 n a.1 a.2.1 a.2.2) ((0 : Int), ((⟨x7.1, x7.2⟩ : GReader) : GReader), (([] : List GOp) : List GOp)) v9 h1 [2, 3, 4, 15] [] (fun (a : Int × GReader × (List GOp)) (k : Nat) => [(5, .sl 4 k 0 a.2.2.length), (16, int a.1)]) (fun a k => [(1, ⟨87, 2, true, true, w0_1, [[str a.2.1.s, boo a.2.1.bad]]⟩), (4, ⟨28, 9, true, true, k, a.2.2.map GOp.av⟩)]) (fun _ => rfl) ⟨leA, ?_⟩
  rintro n ⟨y1_2, y1_3, y1_4⟩ w1_1 hm h1
  replace h1 : d_ops_Read_L0 x6 (n + 1) y1_2 y1_3 y1_4 = some _ := h1
  rw [d_ops_Read_L0] at h1
  refine tc tbk 2 (.mk ?_)
  refine nb tbk h1 fun x10 h1 => ?_
  refine tr tbk 2 (.mk ?_)
  cases x10
  replace h1 := cf h1
  refine tc tbk 2 (.mk ?_)
  exact lf h1 w1_1 leA
  replace h1 := ct h1
  refine tc tbk 3 (.mk ?_)
  refine jn h1 [2, 3, 4, 15, 16] [] (fun (a : GReader × (List GOp)) (k : Nat) => [(5, .sl 4 k 0 a.2.length)]) (fun a k => [(1, ⟨87, 2, true, true, w0_1, [[str a.1.s, boo a.1.bad]]⟩), (4, ⟨28, 9, true, true, k, a.2.map GOp.av⟩)]) ⟨fun j11 h2 => ?_, ?_⟩
  refine tc tbk 4 (.mk ?_)
  obtain ⟨p12, h2⟩ := asrt_e h2
  obtain ⟨x13, e13, h2⟩ := bnd_e h2
  obtain ⟨x14, e14, h2⟩ := bnd_e h2
  refine rse rfl rfl rfl (yl_call rfl rfl (.cons rfl (.cons rfl .nil)) cal29 (PC.mono (countP_c (most := 16) (s := ((y1_3.s, y1_3.bad) : RS)) (id := 1) (ver := w0_1) rfl p12) (R' := fun y H' => y = int x13 ∧ H' = upd _ 1 (some (rdr 87 w0_1 x14))) (fun y H' h => ⟨h.1.trans (congrArg int e13), h.2.trans (rdr_cong e14)⟩))) ?_; rintro _ _ ⟨rfl, rfl⟩
  refine sY (yv_build (cs := [int x13, int 0, int 0, int 0, int 0, int 0, int 0, int 0, .sc (.slice none 0 0)]) (ps := [(0, _)]) rfl pl28 z28 rfl (.cons rfl .nil) (by kernel_rfl)) ?_
  refine sA 2 z28 fun v15 => ?_
  refine sS ⟨28, 9, true, true, v15, [[int x13, int 0, int 0, int 0, int 0, int 0, int 0, int 0, .sc (.slice none 0 0)]]⟩ sh28 ?_
  refine tr tbk 2 (.mk ?_)
  obtain ⟨x16, e16, h2⟩ := bnd_e h2
  cases x16
  replace h2 := cf h2
  obtain ⟨x17, e17, h2⟩ := bnd_e h2
  cases x17
  replace h2 := cf h2
  obtain ⟨x18, e18, h2⟩ := bnd_e h2
  cases x18
  replace h2 := cf h2
  obtain ⟨x19, e19, h2⟩ := bnd_e h2
  cases x19
  replace h2 := cf h2
  obtain ⟨x20, e20, h2⟩ := bnd_e h2
  cases x20
  replace h2 := cf h2
  obtain ⟨x21, e21, h2⟩ := bnd_e h2
  cases x21
  replace h2 := cf h2
  obtain ⟨x22, e22, h2⟩ := bnd_e h2
  cases x22
  replace h2 := cf h2
  obtain ⟨x23, e23, h2⟩ := bnd_e h2
  cases x23
  replace h2 := cf h2
  obtain ⟨x24, e24, h2⟩ := bnd_e h2
  cases x24
  replace h2 := cf h2
  obtain ⟨x25, e25, h2⟩ := bnd_e h2
  cases x25
  replace h2 := cf h2
  obtain ⟨x26, e26, h2⟩ := bnd_e h2
  cases x26
  replace h2 := cf h2
  obtain ⟨x27, e27, h2⟩ := bnd_e h2
  cases x27
  replace h2 := cf h2
  obtain ⟨x28, e28, h2⟩ := bnd_e h2
  cases x28
  replace h2 := cf h2
  obtain ⟨x29, e29, h2⟩ := bnd_e h2
  cases x29
  replace h2 := cf h2
  obtain ⟨x30, e30, h2⟩ := bnd_e h2
  cases x30
  replace h2 := cf h2
  obtain ⟨x31, e31, h2⟩ := bnd_e h2
  cases x31
  replace h2 := cf h2
  obtain ⟨p32, h2⟩ := asrt_e h2
  refine w_rangeD [0, 0, 2, 7, 15] (fun i => bif Nat.beq i 1 then ([2]) else bif Nat.beq i 2 then ([2]) else []) (fun i => [2]) 4 [0, 1, 2, 3] mixed (by kernel_rfl) rfl rfl rfl rfl rfl rfl rfl rfl rfl rfl rfl rfl rfl Try.underlying9 ?_
  refine eP (fun H hH => yv_callP rfl rfl .nil cal20 (CvL.refl _) forms20_c) ?_
  refine eF fo28_0 ?_
  refine eL sh3 ?_
  refine de_as 23 (int 16) rfl (congrArg int p32) ?_
  refine de_pure rfl rfl rfl rfl (fun H hH => yv_indexA rfl Try.underlying46 sh45 rfl rfl (by decide) rfl) ?_
  refine ⟨_, rfl, rfl, fun b33 => ?_⟩
  refine tc tbk 13 (.mk ?_)
  refine sY (yv_to (y := boo false) (yv_eql rfl rfl rfl) (congrArg boo (by decide))) ?_
  refine tr tbk 4 (.mk ?_)
  obtain ⟨j34, h3, h2⟩ := bind_e h2
  refine rse (Out := fun y H' => (∃ (a : Unit) (k : Unit), a = j34 ∧ y = .pt 2 v15 0 1 ∧ H' = hk [(1, ⟨87, 2, true, true, w0_1, [[str x14.1, boo x14.2]]⟩), (2, ⟨28, 9, true, true, v15, [[int x13, int 0, int 0, int 0, int 0, int 0, int 0, int 0, .sc (.slice none 0 0)]]⟩), (4, ⟨28, 9, true, true, w1_1, y1_4.map GOp.av⟩)])) rfl rfl rfl (yl_call rfl rfl (.cons rfl (.cons rfl .nil)) cal23 ?_) ?_
  refine pcw (c := _) Try.func23 rfl rfl ?_; intro Q hret hnorm
  refine tc tbk 12 (.mk ?_)
  refine sY (yv_to (y := boo true) (yv_eql rfl rfl rfl) (congrArg boo (by decide))) ?_
  refine tr tbk 10 (.mk ?_)
  obtain rfl := nxt_e h3
  refine w_ret (hret _ _ (hk [(1, ⟨87, 2, true, true, w0_1, [[str x14.1, boo x14.2]]⟩), (2, ⟨28, 9, true, true, v15, [[int x13, int 0, int 0, int 0, int 0, int 0, int 0, int 0, .sc (.slice none 0 0)]]⟩), (4, ⟨28, 9, true, true, w1_1, y1_4.map GOp.av⟩)]) (.tmp rfl .nil) (HK.le ⟨rfl, rfl, rfl, trivial⟩) ?_)
  exact ⟨(), (), rfl, rfl, rfl⟩
  rintro y _ ⟨_, _, rfl, hc, rfl⟩
  subst hc
  refine tr tbk 1 (.mk ?_)
  obtain ⟨p35, h2⟩ := asrt_e h2
  obtain ⟨x36, e36, h2⟩ := bnd_e h2
  obtain ⟨x37, e37, h2⟩ := bnd_e h2
  refine rse rfl rfl rfl (yl_call rfl rfl (.cons rfl .nil) cal31 (PC.mono (numP_c (s := x14) (id := 1) (ver := w0_1) rfl p35) (R' := fun y H' => y = int x36 ∧ H' = upd _ 1 (some (rdr 87 w0_1 x37))) (fun y H' h => ⟨h.1.trans (congrArg int e36), h.2.trans (rdr_cong e37)⟩))) ?_; rintro _ _ ⟨rfl, rfl⟩
  refine tr tbk 1 (.mk ?_)
  refine sS ⟨28, 9, true, true, v15, [[int x13, int x36, int 0, int 0, int 0, int 0, int 0, int 0, .sc (.slice none 0 0)]]⟩ sh3 ?_
  refine tr tbk 8 (.mk ?_)
  refine jn h2 [2, 3, 4, 5, 6, 15, 16] [1, 2, 4] (fun (a : Bool) (k : Unit) => [(45, boo a)]) (fun a k => []) ⟨fun j38 h3 => ?_, ?_⟩
  refine tc tbk 2 (.mk ?_)
  refine sY (yv_callR rfl rfl (.cons rfl .nil) cal32 (badP_c (s := x37) (id := 1) (ver := w0_1) rfl) (.sc _)) ?_
  refine tr tbk 1 (.mk ?_)
  obtain ⟨x39, e39, h3⟩ := bnd_e h3
  refine rsas 40 (boo x39) rfl (congrArg boo e39) ?_
  refine rsas 41 (boo x39) rfl (congrArg boo e39) ?_
  cases x39
  replace h3 := cf h3
  refine tr tbk 1 (.mk ?_)
  obtain ⟨x40, e40, h3⟩ := bind_e h3
  refine sY (yv_callP rfl rfl (.cons rfl .nil) cal8 (.cons (CvL.agg (.cons (.refl _) (.cons (.refl _) (.cons (.refl _) (.cons (.refl _) (.cons (.refl _) (.cons (.refl _) (.cons (.refl _) (.cons (.refl _) (.cons (.nil _) .nil)))))))))) .nil) (d_ops_Check_c e40)) ?_
  refine nb tbk h3 fun x41 h3 => ?_
  refine tr tbk 2 (.mk ?_)
  exact lf h3 () leA
  replace h3 := ct h3
  refine tr tbk 5 (.mk ?_)
  exact lf h3 () leA
  rintro y3_1 _ h2
  replace h2 := asrt_e h2
  obtain ⟨rfl, h2⟩ := h2
  refine tc tbk 5 (.mk ?_)
  refine sY (yv_buildSlice (ps := [(0, _)]) (rows := [[int x13, int x36, int 0, int 0, int 0, int 0, int 0, int 0, .sc (.slice none 0 0)]]) rfl Try.underlying22 bz28 (.cons rfl .nil) (by kernel_rfl) rfl rfl rfl) ?_
  obtain ⟨x42, e42, h2⟩ := bnd_e h2
  obtain ⟨p43, h2⟩ := asrt_e h2
  refine rse rfl rfl rfl (yl_appT (g := GOp.av) (l := y1_4) (m := [(⟨x13, x36, 0, 0, 0, 0, 0, 0, []⟩ : GOp)]) .any rfl Try.underlying22 bz28 by28 rfl rfl rfl rfl rfl rfl rfl rfl rfl rfl (Eq.symm rfl) (CvLL.list (.cons (.cons (.refl _) (.cons (.refl _) (.cons (.refl _) (.cons (.refl _) (.cons (.refl _) (.cons (.refl _) (.cons (.refl _) (.cons (.refl _) (.cons (.nil _) .nil))))))))) .nil)) (fun _ => rfl) e42 p43) ?_; rintro _ _ ⟨v44, -, rfl, rfl⟩
  refine tr tbk 3 (.mk ?_)
  exact lf h2 v44 leA
  replace h2 := ct h2
  refine w_rangeD [0, 0, 2, 7, 15] (fun i => bif Nat.beq i 1 then ([2]) else bif Nat.beq i 2 then ([2]) else []) (fun i => [2]) 4 [0, 1, 2, 3] mixed (by kernel_rfl) rfl rfl rfl rfl rfl rfl rfl rfl rfl rfl rfl rfl rfl Try.underlying9 ?_
  refine eP (fun H hH => yv_callP rfl rfl .nil cal20 (CvL.refl _) forms20_c) ?_
  refine eF fo28_0 ?_
  refine eL sh3 ?_
  refine de_as 23 (int 15) rfl (congrArg int (of_decide_eq_true e31)) ?_
  refine de_pure rfl rfl rfl rfl (fun H hH => yv_indexA rfl Try.underlying46 sh45 rfl rfl (by decide) rfl) ?_
  refine ⟨_, rfl, rfl, fun b45 => ?_⟩
  refine tc tbk 13 (.mk ?_)
  refine sY (yv_to (y := boo false) (yv_eql rfl rfl rfl) (congrArg boo (by decide))) ?_
  refine tr tbk 4 (.mk ?_)
  obtain ⟨j46, h3, h2⟩ := bind_e h2
  refine rse (Out := fun y H' => (∃ (a : Unit) (k : Unit), a = j46 ∧ y = .pt 2 v15 0 1 ∧ H' = hk [(1, ⟨87, 2, true, true, w0_1, [[str x14.1, boo x14.2]]⟩), (2, ⟨28, 9, true, true, v15, [[int x13, int 0, int 0, int 0, int 0, int 0, int 0, int 0, .sc (.slice none 0 0)]]⟩), (4, ⟨28, 9, true, true, w1_1, y1_4.map GOp.av⟩)])) rfl rfl rfl (yl_call rfl rfl (.cons rfl (.cons rfl .nil)) cal23 ?_) ?_
  refine pcw (c := _) Try.func23 rfl rfl ?_; intro Q hret hnorm
  refine tc tbk 12 (.mk ?_)
  refine sY (yv_to (y := boo true) (yv_eql rfl rfl rfl) (congrArg boo (by decide))) ?_
  refine tr tbk 10 (.mk ?_)
  obtain rfl := nxt_e h3
  refine w_ret (hret _ _ (hk [(1, ⟨87, 2, true, true, w0_1, [[str x14.1, boo x14.2]]⟩), (2, ⟨28, 9, true, true, v15, [[int x13, int 0, int 0, int 0, int 0, int 0, int 0, int 0, .sc (.slice none 0 0)]]⟩), (4, ⟨28, 9, true, true, w1_1, y1_4.map GOp.av⟩)]) (.tmp rfl .nil) (HK.le ⟨rfl, rfl, rfl, trivial⟩) ?_)
  exact ⟨(), (), rfl, rfl, rfl⟩
  rintro y _ ⟨_, _, rfl, hc, rfl⟩
  subst hc
  refine tr tbk 1 (.mk ?_)
  obtain ⟨p47, h2⟩ := asrt_e h2
  obtain ⟨x48, e48, h2⟩ := bnd_e h2
  obtain ⟨x49, e49, h2⟩ := bnd_e h2
  refine rse rfl rfl rfl (yl_call rfl rfl (.cons rfl .nil) cal31 (PC.mono (numP_c (s := x14) (id := 1) (ver := w0_1) rfl p47) (R' := fun y H' => y = int x48 ∧ H' = upd _ 1 (some (rdr 87 w0_1 x49))) (fun y H' h => ⟨h.1.trans (congrArg int e48), h.2.trans (rdr_cong e49)⟩))) ?_; rintro _ _ ⟨rfl, rfl⟩
  refine tr tbk 1 (.mk ?_)
  refine sS ⟨28, 9, true, true, v15, [[int x13, int x48, int 0, int 0, int 0, int 0, int 0, int 0, .sc (.slice none 0 0)]]⟩ sh3 ?_
  refine tr tbk 8 (.mk ?_)
  refine jn h2 [2, 3, 4, 5, 6, 15, 16] [1, 2, 4] (fun (a : Bool) (k : Unit) => [(45, boo a)]) (fun a k => []) ⟨fun j50 h3 => ?_, ?_⟩
  refine tc tbk 2 (.mk ?_)
  refine sY (yv_callR rfl rfl (.cons rfl .nil) cal32 (badP_c (s := x49) (id := 1) (ver := w0_1) rfl) (.sc _)) ?_
  refine tr tbk 1 (.mk ?_)
  obtain ⟨x51, e51, h3⟩ := bnd_e h3
  refine rsas 40 (boo x51) rfl (congrArg boo e51) ?_
  refine rsas 41 (boo x51) rfl (congrArg boo e51) ?_
  cases x51
  replace h3 := cf h3
  refine tr tbk 1 (.mk ?_)
  obtain ⟨x52, e52, h3⟩ := bind_e h3
  refine sY (yv_callP rfl rfl (.cons rfl .nil) cal8 (.cons (CvL.agg (.cons (.refl _) (.cons (.refl _) (.cons (.refl _) (.cons (.refl _) (.cons (.refl _) (.cons (.refl _) (.cons (.refl _) (.cons (.refl _) (.cons (.nil _) .nil)))))))))) .nil) (d_ops_Check_c e52)) ?_
  refine nb tbk h3 fun x53 h3 => ?_
  refine tr tbk 2 (.mk ?_)
  exact lf h3 () leA
  replace h3 := ct h3
  refine tr tbk 5 (.mk ?_)
  exact lf h3 () leA
  rintro y3_1 _ h2
  replace h2 := asrt_e h2
  obtain ⟨rfl, h2⟩ := h2
  refine tc tbk 5 (.mk ?_)
  refine sY (yv_buildSlice (ps := [(0, _)]) (rows := [[int x13, int x48, int 0, int 0, int 0, int 0, int 0, int 0, .sc (.slice none 0 0)]]) rfl Try.underlying22 bz28 (.cons rfl .nil) (by kernel_rfl) rfl rfl rfl) ?_
  obtain ⟨x54, e54, h2⟩ := bnd_e h2
  obtain ⟨p55, h2⟩ := asrt_e h2
  refine rse rfl rfl rfl (yl_appT (g := GOp.av) (l := y1_4) (m := [(⟨x13, x48, 0, 0, 0, 0, 0, 0, []⟩ : GOp)]) .any rfl Try.underlying22 bz28 by28 rfl rfl rfl rfl rfl rfl rfl rfl rfl rfl (Eq.symm rfl) (CvLL.list (.cons (.cons (.refl _) (.cons (.refl _) (.cons (.refl _) (.cons (.refl _) (.cons (.refl _) (.cons (.refl _) (.cons (.refl _) (.cons (.refl _) (.cons (.nil _) .nil))))))))) .nil)) (fun _ => rfl) e54 p55) ?_; rintro _ _ ⟨v56, -, rfl, rfl⟩
  refine tr tbk 3 (.mk ?_)
  exact lf h2 v56 leA
  replace h2 := ct h2
  refine w_rangeD [0, 0, 2, 7, 15] (fun i => bif Nat.beq i 1 then ([2]) else bif Nat.beq i 2 then ([2]) else []) (fun i => [2]) 4 [0, 1, 2, 3] mixed (by kernel_rfl) rfl rfl rfl rfl rfl rfl rfl rfl rfl rfl rfl rfl rfl Try.underlying9 ?_
  refine eP (fun H hH => yv_callP rfl rfl .nil cal20 (CvL.refl _) forms20_c) ?_
  refine eF fo28_0 ?_
  refine eL sh3 ?_
  refine de_as 23 (int 14) rfl (congrArg int (of_decide_eq_true e30)) ?_
  refine de_pure rfl rfl rfl rfl (fun H hH => yv_indexA rfl Try.underlying46 sh45 rfl rfl (by decide) rfl) ?_
  refine ⟨_, rfl, rfl, fun b57 => ?_⟩
  refine tc tbk 13 (.mk ?_)
  refine sY (yv_to (y := boo false) (yv_eql rfl rfl rfl) (congrArg boo (by decide))) ?_
  refine tr tbk 4 (.mk ?_)
  obtain ⟨j58, h3, h2⟩ := bind_e h2
  refine rse (Out := fun y H' => (∃ (a : Unit) (k : Unit), a = j58 ∧ y = .pt 2 v15 0 1 ∧ H' = hk [(1, ⟨87, 2, true, true, w0_1, [[str x14.1, boo x14.2]]⟩), (2, ⟨28, 9, true, true, v15, [[int x13, int 0, int 0, int 0, int 0, int 0, int 0, int 0, .sc (.slice none 0 0)]]⟩), (4, ⟨28, 9, true, true, w1_1, y1_4.map GOp.av⟩)])) rfl rfl rfl (yl_call rfl rfl (.cons rfl (.cons rfl .nil)) cal23 ?_) ?_
  refine pcw (c := _) Try.func23 rfl rfl ?_; intro Q hret hnorm
  refine tc tbk 12 (.mk ?_)
  refine sY (yv_to (y := boo true) (yv_eql rfl rfl rfl) (congrArg boo (by decide))) ?_
  refine tr tbk 10 (.mk ?_)
  obtain rfl := nxt_e h3
  refine w_ret (hret _ _ (hk [(1, ⟨87, 2, true, true, w0_1, [[str x14.1, boo x14.2]]⟩), (2, ⟨28, 9, true, true, v15, [[int x13, int 0, int 0, int 0, int 0, int 0, int 0, int 0, .sc (.slice none 0 0)]]⟩), (4, ⟨28, 9, true, true, w1_1, y1_4.map GOp.av⟩)]) (.tmp rfl .nil) (HK.le ⟨rfl, rfl, rfl, trivial⟩) ?_)
  exact ⟨(), (), rfl, rfl, rfl⟩
  rintro y _ ⟨_, _, rfl, hc, rfl⟩
  subst hc
  refine tr tbk 1 (.mk ?_)
  obtain ⟨p59, h2⟩ := asrt_e h2
  obtain ⟨x60, e60, h2⟩ := bnd_e h2
  obtain ⟨x61, e61, h2⟩ := bnd_e h2
  refine rse rfl rfl rfl (yl_call rfl rfl (.cons rfl .nil) cal31 (PC.mono (numP_c (s := x14) (id := 1) (ver := w0_1) rfl p59) (R' := fun y H' => y = int x60 ∧ H' = upd _ 1 (some (rdr 87 w0_1 x61))) (fun y H' h => ⟨h.1.trans (congrArg int e60), h.2.trans (rdr_cong e61)⟩))) ?_; rintro _ _ ⟨rfl, rfl⟩
  refine tr tbk 1 (.mk ?_)
  refine sS ⟨28, 9, true, true, v15, [[int x13, int x60, int 0, int 0, int 0, int 0, int 0, int 0, .sc (.slice none 0 0)]]⟩ sh3 ?_
  refine tr tbk 8 (.mk ?_)
  refine jn h2 [2, 3, 4, 5, 6, 15, 16] [1, 2, 4] (fun (a : Bool) (k : Unit) => [(45, boo a)]) (fun a k => []) ⟨fun j62 h3 => ?_, ?_⟩
  refine tc tbk 2 (.mk ?_)
  refine sY (yv_callR rfl rfl (.cons rfl .nil) cal32 (badP_c (s := x61) (id := 1) (ver := w0_1) rfl) (.sc _)) ?_
  refine tr tbk 1 (.mk ?_)
  obtain ⟨x63, e63, h3⟩ := bnd_e h3
  refine rsas 40 (boo x63) rfl (congrArg boo e63) ?_
  refine rsas 41 (boo x63) rfl (congrArg boo e63) ?_
  cases x63
  replace h3 := cf h3
  refine tr tbk 1 (.mk ?_)
  obtain ⟨x64, e64, h3⟩ := bind_e h3
  refine sY (yv_callP rfl rfl (.cons rfl .nil) cal8 (.cons (CvL.agg (.cons (.refl _) (.cons (.refl _) (.cons (.refl _) (.cons (.refl _) (.cons (.refl _) (.cons (.refl _) (.cons (.refl _) (.cons (.refl _) (.cons (.nil _) .nil)))))))))) .nil) (d_ops_Check_c e64)) ?_
  refine nb tbk h3 fun x65 h3 => ?_
  refine tr tbk 2 (.mk ?_)
  exact lf h3 () leA
  replace h3 := ct h3
  refine tr tbk 5 (.mk ?_)
  exact lf h3 () leA
  rintro y3_1 _ h2
  replace h2 := asrt_e h2
  obtain ⟨rfl, h2⟩ := h2
  refine tc tbk 5 (.mk ?_)
  refine sY (yv_buildSlice (ps := [(0, _)]) (rows := [[int x13, int x60, int 0, int 0, int 0, int 0, int 0, int 0, .sc (.slice none 0 0)]]) rfl Try.underlying22 bz28 (.cons rfl .nil) (by kernel_rfl) rfl rfl rfl) ?_
  obtain ⟨x66, e66, h2⟩ := bnd_e h2
  obtain ⟨p67, h2⟩ := asrt_e h2
  refine rse rfl rfl rfl (yl_appT (g := GOp.av) (l := y1_4) (m := [(⟨x13, x60, 0, 0, 0, 0, 0, 0, []⟩ : GOp)]) .any rfl Try.underlying22 bz28 by28 rfl rfl rfl rfl rfl rfl rfl rfl rfl rfl (Eq.symm rfl) (CvLL.list (.cons (.cons (.refl _) (.cons (.refl _) (.cons (.refl _) (.cons (.refl _) (.cons (.refl _) (.cons (.refl _) (.cons (.refl _) (.cons (.refl _) (.cons (.nil _) .nil))))))))) .nil)) (fun _ => rfl) e66 p67) ?_; rintro _ _ ⟨v68, -, rfl, rfl⟩
  refine tr tbk 3 (.mk ?_)
  exact lf h2 v68 leA
  replace h2 := ct h2
  refine w_rangeD [0, 0, 2, 7, 15] (fun i => bif Nat.beq i 1 then ([2]) else bif Nat.beq i 2 then ([2]) else []) (fun i => [2]) 4 [0, 1, 2, 3] mixed (by kernel_rfl) rfl rfl rfl rfl rfl rfl rfl rfl rfl rfl rfl rfl rfl Try.underlying9 ?_
  refine eP (fun H hH => yv_callP rfl rfl .nil cal20 (CvL.refl _) forms20_c) ?_
  refine eF fo28_0 ?_
  refine eL sh3 ?_
  refine de_as 23 (int 13) rfl (congrArg int (of_decide_eq_true e29)) ?_
  refine de_pure rfl rfl rfl rfl (fun H hH => yv_indexA rfl Try.underlying46 sh45 rfl rfl (by decide) rfl) ?_
  refine ⟨_, rfl, rfl, fun b69 => ?_⟩
  refine tc tbk 13 (.mk ?_)
  refine sY (yv_to (y := boo false) (yv_eql rfl rfl rfl) (congrArg boo (by decide))) ?_
  refine tr tbk 4 (.mk ?_)
  obtain ⟨j70, h3, h2⟩ := bind_e h2
  refine rse (Out := fun y H' => (∃ (a : Unit) (k : Unit), a = j70 ∧ y = .pt 2 v15 0 3 ∧ H' = hk [(1, ⟨87, 2, true, true, w0_1, [[str x14.1, boo x14.2]]⟩), (2, ⟨28, 9, true, true, v15, [[int x13, int 0, int 0, int 0, int 0, int 0, int 0, int 0, .sc (.slice none 0 0)]]⟩), (4, ⟨28, 9, true, true, w1_1, y1_4.map GOp.av⟩)])) rfl rfl rfl (yl_call rfl rfl (.cons rfl (.cons rfl .nil)) cal23 ?_) ?_
  refine pcw (c := _) Try.func23 rfl rfl ?_; intro Q hret hnorm
  refine tc tbk 12 (.mk ?_)
  refine sY (yv_to (y := boo false) (yv_eql rfl rfl rfl) (congrArg boo (by decide))) ?_
  refine tr tbk 5 (.mk ?_)
  refine sY (yv_to (y := boo false) (yv_eql rfl rfl rfl) (congrArg boo (by decide))) ?_
  refine tr tbk 5 (.mk ?_)
  refine sY (yv_to (y := boo true) (yv_eql rfl rfl rfl) (congrArg boo (by decide))) ?_
  refine tr tbk 10 (.mk ?_)
  obtain rfl := nxt_e h3
  refine w_ret (hret _ _ (hk [(1, ⟨87, 2, true, true, w0_1, [[str x14.1, boo x14.2]]⟩), (2, ⟨28, 9, true, true, v15, [[int x13, int 0, int 0, int 0, int 0, int 0, int 0, int 0, .sc (.slice none 0 0)]]⟩), (4, ⟨28, 9, true, true, w1_1, y1_4.map GOp.av⟩)]) (.tmp rfl .nil) (HK.le ⟨rfl, rfl, rfl, trivial⟩) ?_)
  exact ⟨(), (), rfl, rfl, rfl⟩
  rintro y _ ⟨_, _, rfl, hc, rfl⟩
  subst hc
  refine tr tbk 1 (.mk ?_)
  obtain ⟨p71, h2⟩ := asrt_e h2
  obtain ⟨x72, e72, h2⟩ := bnd_e h2
  obtain ⟨x73, e73, h2⟩ := bnd_e h2
  refine rse rfl rfl rfl (yl_call rfl rfl (.cons rfl .nil) cal31 (PC.mono (numP_c (s := x14) (id := 1) (ver := w0_1) rfl p71) (R' := fun y H' => y = int x72 ∧ H' = upd _ 1 (some (rdr 87 w0_1 x73))) (fun y H' h => ⟨h.1.trans (congrArg int e72), h.2.trans (rdr_cong e73)⟩))) ?_; rintro _ _ ⟨rfl, rfl⟩
  refine tr tbk 1 (.mk ?_)
  refine sS ⟨28, 9, true, true, v15, [[int x13, int 0, int 0, int x72, int 0, int 0, int 0, int 0, .sc (.slice none 0 0)]]⟩ sh3 ?_
  refine tr tbk 15 (.mk ?_)
  refine sY (yv_to (y := boo false) (yv_eql rfl rfl rfl) (congrArg boo (by decide))) ?_
  refine tr tbk 4 (.mk ?_)
  obtain ⟨j74, h3, h2⟩ := bind_e h2
  refine rse (Out := fun y H' => (∃ (a : Unit) (k : Unit), a = j74 ∧ y = .pt 2 v15 0 5 ∧ H' = hk [(1, ⟨87, 2, true, true, w0_1, [[str x73.1, boo x73.2]]⟩), (2, ⟨28, 9, true, true, v15, [[int x13, int 0, int 0, int x72, int 0, int 0, int 0, int 0, .sc (.slice none 0 0)]]⟩), (4, ⟨28, 9, true, true, w1_1, y1_4.map GOp.av⟩)])) rfl rfl rfl (yl_call rfl rfl (.cons rfl (.cons rfl .nil)) cal23 ?_) ?_
  refine pcw (c := _) Try.func23 rfl rfl ?_; intro Q hret hnorm
  refine tc tbk 12 (.mk ?_)
  refine sY (yv_to (y := boo false) (yv_eql rfl rfl rfl) (congrArg boo (by decide))) ?_
  refine tr tbk 5 (.mk ?_)
  refine sY (yv_to (y := boo false) (yv_eql rfl rfl rfl) (congrArg boo (by decide))) ?_
  refine tr tbk 5 (.mk ?_)
  refine sY (yv_to (y := boo false) (yv_eql rfl rfl rfl) (congrArg boo (by decide))) ?_
  refine tr tbk 5 (.mk ?_)
  refine sY (yv_to (y := boo false) (yv_eql rfl rfl rfl) (congrArg boo (by decide))) ?_
  refine tr tbk 5 (.mk ?_)
  refine sY (yv_to (y := boo true) (yv_eql rfl rfl rfl) (congrArg boo (by decide))) ?_
  refine tr tbk 10 (.mk ?_)
  obtain rfl := nxt_e h3
  refine w_ret (hret _ _ (hk [(1, ⟨87, 2, true, true, w0_1, [[str x73.1, boo x73.2]]⟩), (2, ⟨28, 9, true, true, v15, [[int x13, int 0, int 0, int x72, int 0, int 0, int 0, int 0, .sc (.slice none 0 0)]]⟩), (4, ⟨28, 9, true, true, w1_1, y1_4.map GOp.av⟩)]) (.tmp rfl .nil) (HK.le ⟨rfl, rfl, rfl, trivial⟩) ?_)
  exact ⟨(), (), rfl, rfl, rfl⟩
  rintro y _ ⟨_, _, rfl, hc, rfl⟩
  subst hc
  refine tr tbk 1 (.mk ?_)
  obtain ⟨p75, h2⟩ := asrt_e h2
  obtain ⟨x76, e76, h2⟩ := bnd_e h2
  obtain ⟨x77, e77, h2⟩ := bnd_e h2
  refine rse rfl rfl rfl (yl_call rfl rfl (.cons rfl .nil) cal31 (PC.mono (numP_c (s := x73) (id := 1) (ver := w0_1) rfl p75) (R' := fun y H' => y = int x76 ∧ H' = upd _ 1 (some (rdr 87 w0_1 x77))) (fun y H' h => ⟨h.1.trans (congrArg int e76), h.2.trans (rdr_cong e77)⟩))) ?_; rintro _ _ ⟨rfl, rfl⟩
  refine tr tbk 1 (.mk ?_)
  refine sS ⟨28, 9, true, true, v15, [[int x13, int 0, int 0, int x72, int 0, int x76, int 0, int 0, .sc (.slice none 0 0)]]⟩ sh3 ?_
  refine tr tbk 15 (.mk ?_)
  refine sY (yv_to (y := boo false) (yv_eql rfl rfl rfl) (congrArg boo (by decide))) ?_
  refine tr tbk 4 (.mk ?_)
  obtain ⟨j78, h3, h2⟩ := bind_e h2
  refine rse (Out := fun y H' => (∃ (a : Unit) (k : Unit), a = j78 ∧ y = .pt 2 v15 0 7 ∧ H' = hk [(1, ⟨87, 2, true, true, w0_1, [[str x77.1, boo x77.2]]⟩), (2, ⟨28, 9, true, true, v15, [[int x13, int 0, int 0, int x72, int 0, int x76, int 0, int 0, .sc (.slice none 0 0)]]⟩), (4, ⟨28, 9, true, true, w1_1, y1_4.map GOp.av⟩)])) rfl rfl rfl (yl_call rfl rfl (.cons rfl (.cons rfl .nil)) cal23 ?_) ?_
  refine pcw (c := _) Try.func23 rfl rfl ?_; intro Q hret hnorm
  refine tc tbk 12 (.mk ?_)
  refine sY (yv_to (y := boo false) (yv_eql rfl rfl rfl) (congrArg boo (by decide))) ?_
  refine tr tbk 5 (.mk ?_)
  refine sY (yv_to (y := boo false) (yv_eql rfl rfl rfl) (congrArg boo (by decide))) ?_
  refine tr tbk 5 (.mk ?_)
  refine sY (yv_to (y := boo false) (yv_eql rfl rfl rfl) (congrArg boo (by decide))) ?_
  refine tr tbk 5 (.mk ?_)
  refine sY (yv_to (y := boo false) (yv_eql rfl rfl rfl) (congrArg boo (by decide))) ?_
  refine tr tbk 5 (.mk ?_)
  refine sY (yv_to (y := boo false) (yv_eql rfl rfl rfl) (congrArg boo (by decide))) ?_
  refine tr tbk 5 (.mk ?_)
  refine sY (yv_to (y := boo false) (yv_eql rfl rfl rfl) (congrArg boo (by decide))) ?_
  refine tr tbk 12 (.mk ?_)
  obtain rfl := nxt_e h3
  refine w_ret (hret _ _ (hk [(1, ⟨87, 2, true, true, w0_1, [[str x77.1, boo x77.2]]⟩), (2, ⟨28, 9, true, true, v15, [[int x13, int 0, int 0, int x72, int 0, int x76, int 0, int 0, .sc (.slice none 0 0)]]⟩), (4, ⟨28, 9, true, true, w1_1, y1_4.map GOp.av⟩)]) (.tmp rfl .nil) (HK.le ⟨rfl, rfl, rfl, trivial⟩) ?_)
  exact ⟨(), (), rfl, rfl, rfl⟩
  rintro y _ ⟨_, _, rfl, hc, rfl⟩
  subst hc
  refine tr tbk 1 (.mk ?_)
  obtain ⟨p79, h2⟩ := asrt_e h2
  obtain ⟨x80, e80, h2⟩ := bnd_e h2
  obtain ⟨x81, e81, h2⟩ := bnd_e h2
  refine rse rfl rfl rfl (yl_call rfl rfl (.cons rfl .nil) cal31 (PC.mono (numP_c (s := x77) (id := 1) (ver := w0_1) rfl p79) (R' := fun y H' => y = int x80 ∧ H' = upd _ 1 (some (rdr 87 w0_1 x81))) (fun y H' h => ⟨h.1.trans (congrArg int e80), h.2.trans (rdr_cong e81)⟩))) ?_; rintro _ _ ⟨rfl, rfl⟩
  refine tr tbk 1 (.mk ?_)
  refine sS ⟨28, 9, true, true, v15, [[int x13, int 0, int 0, int x72, int 0, int x76, int 0, int x80, .sc (.slice none 0 0)]]⟩ sh3 ?_
  refine tr tbk 8 (.mk ?_)
  refine jn h2 [2, 3, 4, 5, 6, 15, 16] [1, 2, 4] (fun (a : Bool) (k : Unit) => [(45, boo a)]) (fun a k => []) ⟨fun j82 h3 => ?_, ?_⟩
  refine tc tbk 2 (.mk ?_)
  refine sY (yv_callR rfl rfl (.cons rfl .nil) cal32 (badP_c (s := x81) (id := 1) (ver := w0_1) rfl) (.sc _)) ?_
  refine tr tbk 1 (.mk ?_)
  obtain ⟨x83, e83, h3⟩ := bnd_e h3
  refine rsas 40 (boo x83) rfl (congrArg boo e83) ?_
  refine rsas 41 (boo x83) rfl (congrArg boo e83) ?_
  cases x83
  replace h3 := cf h3
  refine tr tbk 1 (.mk ?_)
  obtain ⟨x84, e84, h3⟩ := bind_e h3
  refine sY (yv_callP rfl rfl (.cons rfl .nil) cal8 (.cons (CvL.agg (.cons (.refl _) (.cons (.refl _) (.cons (.refl _) (.cons (.refl _) (.cons (.refl _) (.cons (.refl _) (.cons (.refl _) (.cons (.refl _) (.cons (.nil _) .nil)))))))))) .nil) (d_ops_Check_c e84)) ?_
  refine nb tbk h3 fun x85 h3 => ?_
  refine tr tbk 2 (.mk ?_)
  exact lf h3 () leA
  replace h3 := ct h3
  refine tr tbk 5 (.mk ?_)
  exact lf h3 () leA
  rintro y3_1 _ h2
  replace h2 := asrt_e h2
  obtain ⟨rfl, h2⟩ := h2
  refine tc tbk 5 (.mk ?_)
  refine sY (yv_buildSlice (ps := [(0, _)]) (rows := [[int x13, int 0, int 0, int x72, int 0, int x76, int 0, int x80, .sc (.slice none 0 0)]]) rfl Try.underlying22 bz28 (.cons rfl .nil) (by kernel_rfl) rfl rfl rfl) ?_
  obtain ⟨x86, e86, h2⟩ := bnd_e h2
  obtain ⟨p87, h2⟩ := asrt_e h2
  refine rse rfl rfl rfl (yl_appT (g := GOp.av) (l := y1_4) (m := [(⟨x13, 0, 0, x72, 0, x76, 0, x80, []⟩ : GOp)]) .any rfl Try.underlying22 bz28 by28 rfl rfl rfl rfl rfl rfl rfl rfl rfl rfl (Eq.symm rfl) (CvLL.list (.cons (.cons (.refl _) (.cons (.refl _) (.cons (.refl _) (.cons (.refl _) (.cons (.refl _) (.cons (.refl _) (.cons (.refl _) (.cons (.refl _) (.cons (.nil _) .nil))))))))) .nil)) (fun _ => rfl) e86 p87) ?_; rintro _ _ ⟨v88, -, rfl, rfl⟩
  refine tr tbk 3 (.mk ?_)
  exact lf h2 v88 leA
  replace h2 := ct h2
  refine w_rangeD [0, 0, 2, 7, 15] (fun i => bif Nat.beq i 1 then ([2]) else bif Nat.beq i 2 then ([2]) else []) (fun i => [2]) 4 [0, 1, 2, 3] mixed (by kernel_rfl) rfl rfl rfl rfl rfl rfl rfl rfl rfl rfl rfl rfl rfl Try.underlying9 ?_
  refine eP (fun H hH => yv_callP rfl rfl .nil cal20 (CvL.refl _) forms20_c) ?_
  refine eF fo28_0 ?_
  refine eL sh3 ?_
  refine de_as 23 (int 12) rfl (congrArg int (of_decide_eq_true e28)) ?_
  refine de_pure rfl rfl rfl rfl (fun H hH => yv_indexA rfl Try.underlying46 sh45 rfl rfl (by decide) rfl) ?_
  refine ⟨_, rfl, rfl, fun b89 => ?_⟩
  refine tc tbk 13 (.mk ?_)
  refine sY (yv_to (y := boo false) (yv_eql rfl rfl rfl) (congrArg boo (by decide))) ?_
  refine tr tbk 4 (.mk ?_)
  obtain ⟨j90, h3, h2⟩ := bind_e h2
  refine rse (Out := fun y H' => (∃ (a : Unit) (k : Unit), a = j90 ∧ y = .pt 2 v15 0 1 ∧ H' = hk [(1, ⟨87, 2, true, true, w0_1, [[str x14.1, boo x14.2]]⟩), (2, ⟨28, 9, true, true, v15, [[int x13, int 0, int 0, int 0, int 0, int 0, int 0, int 0, .sc (.slice none 0 0)]]⟩), (4, ⟨28, 9, true, true, w1_1, y1_4.map GOp.av⟩)])) rfl rfl rfl (yl_call rfl rfl (.cons rfl (.cons rfl .nil)) cal23 ?_) ?_
  refine pcw (c := _) Try.func23 rfl rfl ?_; intro Q hret hnorm
  refine tc tbk 12 (.mk ?_)
  refine sY (yv_to (y := boo true) (yv_eql rfl rfl rfl) (congrArg boo (by decide))) ?_
  refine tr tbk 10 (.mk ?_)
  obtain rfl := nxt_e h3
  refine w_ret (hret _ _ (hk [(1, ⟨87, 2, true, true, w0_1, [[str x14.1, boo x14.2]]⟩), (2, ⟨28, 9, true, true, v15, [[int x13, int 0, int 0, int 0, int 0, int 0, int 0, int 0, .sc (.slice none 0 0)]]⟩), (4, ⟨28, 9, true, true, w1_1, y1_4.map GOp.av⟩)]) (.tmp rfl .nil) (HK.le ⟨rfl, rfl, rfl, trivial⟩) ?_)
  exact ⟨(), (), rfl, rfl, rfl⟩
  rintro y _ ⟨_, _, rfl, hc, rfl⟩
  subst hc
  refine tr tbk 1 (.mk ?_)
  obtain ⟨p91, h2⟩ := asrt_e h2
  obtain ⟨x92, e92, h2⟩ := bnd_e h2
  obtain ⟨x93, e93, h2⟩ := bnd_e h2
  refine rse rfl rfl rfl (yl_call rfl rfl (.cons rfl .nil) cal31 (PC.mono (numP_c (s := x14) (id := 1) (ver := w0_1) rfl p91) (R' := fun y H' => y = int x92 ∧ H' = upd _ 1 (some (rdr 87 w0_1 x93))) (fun y H' h => ⟨h.1.trans (congrArg int e92), h.2.trans (rdr_cong e93)⟩))) ?_; rintro _ _ ⟨rfl, rfl⟩
  refine tr tbk 1 (.mk ?_)
  refine sS ⟨28, 9, true, true, v15, [[int x13, int x92, int 0, int 0, int 0, int 0, int 0, int 0, .sc (.slice none 0 0)]]⟩ sh3 ?_
  refine tr tbk 15 (.mk ?_)
  refine sY (yv_to (y := boo false) (yv_eql rfl rfl rfl) (congrArg boo (by decide))) ?_
  refine tr tbk 4 (.mk ?_)
  obtain ⟨j94, h3, h2⟩ := bind_e h2
  refine rse (Out := fun y H' => (∃ (a : Unit) (k : Unit), a = j94 ∧ y = .pt 2 v15 0 2 ∧ H' = hk [(1, ⟨87, 2, true, true, w0_1, [[str x93.1, boo x93.2]]⟩), (2, ⟨28, 9, true, true, v15, [[int x13, int x92, int 0, int 0, int 0, int 0, int 0, int 0, .sc (.slice none 0 0)]]⟩), (4, ⟨28, 9, true, true, w1_1, y1_4.map GOp.av⟩)])) rfl rfl rfl (yl_call rfl rfl (.cons rfl (.cons rfl .nil)) cal23 ?_) ?_
  refine pcw (c := _) Try.func23 rfl rfl ?_; intro Q hret hnorm
  refine tc tbk 12 (.mk ?_)
  refine sY (yv_to (y := boo false) (yv_eql rfl rfl rfl) (congrArg boo (by decide))) ?_
  refine tr tbk 5 (.mk ?_)
  refine sY (yv_to (y := boo true) (yv_eql rfl rfl rfl) (congrArg boo (by decide))) ?_
  refine tr tbk 10 (.mk ?_)
  obtain rfl := nxt_e h3
  refine w_ret (hret _ _ (hk [(1, ⟨87, 2, true, true, w0_1, [[str x93.1, boo x93.2]]⟩), (2, ⟨28, 9, true, true, v15, [[int x13, int x92, int 0, int 0, int 0, int 0, int 0, int 0, .sc (.slice none 0 0)]]⟩), (4, ⟨28, 9, true, true, w1_1, y1_4.map GOp.av⟩)]) (.tmp rfl .nil) (HK.le ⟨rfl, rfl, rfl, trivial⟩) ?_)
  exact ⟨(), (), rfl, rfl, rfl⟩
  rintro y _ ⟨_, _, rfl, hc, rfl⟩
  subst hc
  refine tr tbk 1 (.mk ?_)
  obtain ⟨p95, h2⟩ := asrt_e h2
  obtain ⟨x96, e96, h2⟩ := bnd_e h2
  obtain ⟨x97, e97, h2⟩ := bnd_e h2
  refine rse rfl rfl rfl (yl_call rfl rfl (.cons rfl .nil) cal31 (PC.mono (numP_c (s := x93) (id := 1) (ver := w0_1) rfl p95) (R' := fun y H' => y = int x96 ∧ H' = upd _ 1 (some (rdr 87 w0_1 x97))) (fun y H' h => ⟨h.1.trans (congrArg int e96), h.2.trans (rdr_cong e97)⟩))) ?_; rintro _ _ ⟨rfl, rfl⟩
  refine tr tbk 1 (.mk ?_)
  refine sS ⟨28, 9, true, true, v15, [[int x13, int x92, int x96, int 0, int 0, int 0, int 0, int 0, .sc (.slice none 0 0)]]⟩ sh3 ?_
  refine tr tbk 15 (.mk ?_)
  refine sY (yv_to (y := boo false) (yv_eql rfl rfl rfl) (congrArg boo (by decide))) ?_
  refine tr tbk 4 (.mk ?_)
  obtain ⟨j98, h3, h2⟩ := bind_e h2
  refine rse (Out := fun y H' => (∃ (a : Unit) (k : Unit), a = j98 ∧ y = .pt 2 v15 0 3 ∧ H' = hk [(1, ⟨87, 2, true, true, w0_1, [[str x97.1, boo x97.2]]⟩), (2, ⟨28, 9, true, true, v15, [[int x13, int x92, int x96, int 0, int 0, int 0, int 0, int 0, .sc (.slice none 0 0)]]⟩), (4, ⟨28, 9, true, true, w1_1, y1_4.map GOp.av⟩)])) rfl rfl rfl (yl_call rfl rfl (.cons rfl (.cons rfl .nil)) cal23 ?_) ?_
  refine pcw (c := _) Try.func23 rfl rfl ?_; intro Q hret hnorm
  refine tc tbk 12 (.mk ?_)
  refine sY (yv_to (y := boo false) (yv_eql rfl rfl rfl) (congrArg boo (by decide))) ?_
  refine tr tbk 5 (.mk ?_)
  refine sY (yv_to (y := boo false) (yv_eql rfl rfl rfl) (congrArg boo (by decide))) ?_
  refine tr tbk 5 (.mk ?_)
  refine sY (yv_to (y := boo true) (yv_eql rfl rfl rfl) (congrArg boo (by decide))) ?_
  refine tr tbk 10 (.mk ?_)
  obtain rfl := nxt_e h3
  refine w_ret (hret _ _ (hk [(1, ⟨87, 2, true, true, w0_1, [[str x97.1, boo x97.2]]⟩), (2, ⟨28, 9, true, true, v15, [[int x13, int x92, int x96, int 0, int 0, int 0, int 0, int 0, .sc (.slice none 0 0)]]⟩), (4, ⟨28, 9, true, true, w1_1, y1_4.map GOp.av⟩)]) (.tmp rfl .nil) (HK.le ⟨rfl, rfl, rfl, trivial⟩) ?_)
  exact ⟨(), (), rfl, rfl, rfl⟩
  rintro y _ ⟨_, _, rfl, hc, rfl⟩
  subst hc
  refine tr tbk 1 (.mk ?_)
  obtain ⟨p99, h2⟩ := asrt_e h2
  obtain ⟨x100, e100, h2⟩ := bnd_e h2
  obtain ⟨x101, e101, h2⟩ := bnd_e h2
  refine rse rfl rfl rfl (yl_call rfl rfl (.cons rfl .nil) cal31 (PC.mono (numP_c (s := x97) (id := 1) (ver := w0_1) rfl p99) (R' := fun y H' => y = int x100 ∧ H' = upd _ 1 (some (rdr 87 w0_1 x101))) (fun y H' h => ⟨h.1.trans (congrArg int e100), h.2.trans (rdr_cong e101)⟩))) ?_; rintro _ _ ⟨rfl, rfl⟩
  refine tr tbk 1 (.mk ?_)
  refine sS ⟨28, 9, true, true, v15, [[int x13, int x92, int x96, int x100, int 0, int 0, int 0, int 0, .sc (.slice none 0 0)]]⟩ sh3 ?_
  refine tr tbk 15 (.mk ?_)
  refine sY (yv_to (y := boo false) (yv_eql rfl rfl rfl) (congrArg boo (by decide))) ?_
  refine tr tbk 4 (.mk ?_)
  obtain ⟨j102, h3, h2⟩ := bind_e h2
  refine rse (Out := fun y H' => (∃ (a : Unit) (k : Unit), a = j102 ∧ y = .pt 2 v15 0 4 ∧ H' = hk [(1, ⟨87, 2, true, true, w0_1, [[str x101.1, boo x101.2]]⟩), (2, ⟨28, 9, true, true, v15, [[int x13, int x92, int x96, int x100, int 0, int 0, int 0, int 0, .sc (.slice none 0 0)]]⟩), (4, ⟨28, 9, true, true, w1_1, y1_4.map GOp.av⟩)])) rfl rfl rfl (yl_call rfl rfl (.cons rfl (.cons rfl .nil)) cal23 ?_) ?_
  refine pcw (c := _) Try.func23 rfl rfl ?_; intro Q hret hnorm
  refine tc tbk 12 (.mk ?_)
  refine sY (yv_to (y := boo false) (yv_eql rfl rfl rfl) (congrArg boo (by decide))) ?_
  refine tr tbk 5 (.mk ?_)
  refine sY (yv_to (y := boo false) (yv_eql rfl rfl rfl) (congrArg boo (by decide))) ?_
  refine tr tbk 5 (.mk ?_)
  refine sY (yv_to (y := boo false) (yv_eql rfl rfl rfl) (congrArg boo (by decide))) ?_
  refine tr tbk 5 (.mk ?_)
  refine sY (yv_to (y := boo true) (yv_eql rfl rfl rfl) (congrArg boo (by decide))) ?_
  refine tr tbk 10 (.mk ?_)
  obtain rfl := nxt_e h3
  refine w_ret (hret _ _ (hk [(1, ⟨87, 2, true, true, w0_1, [[str x101.1, boo x101.2]]⟩), (2, ⟨28, 9, true, true, v15, [[int x13, int x92, int x96, int x100, int 0, int 0, int 0, int 0, .sc (.slice none 0 0)]]⟩), (4, ⟨28, 9, true, true, w1_1, y1_4.map GOp.av⟩)]) (.tmp rfl .nil) (HK.le ⟨rfl, rfl, rfl, trivial⟩) ?_)
  exact ⟨(), (), rfl, rfl, rfl⟩
  rintro y _ ⟨_, _, rfl, hc, rfl⟩
  subst hc
  refine tr tbk 1 (.mk ?_)
  obtain ⟨p103, h2⟩ := asrt_e h2
  obtain ⟨x104, e104, h2⟩ := bnd_e h2
  obtain ⟨x105, e105, h2⟩ := bnd_e h2
  refine rse rfl rfl rfl (yl_call rfl rfl (.cons rfl .nil) cal31 (PC.mono (numP_c (s := x101) (id := 1) (ver := w0_1) rfl p103) (R' := fun y H' => y = int x104 ∧ H' = upd _ 1 (some (rdr 87 w0_1 x105))) (fun y H' h => ⟨h.1.trans (congrArg int e104), h.2.trans (rdr_cong e105)⟩))) ?_; rintro _ _ ⟨rfl, rfl⟩
  refine tr tbk 1 (.mk ?_)
  refine sS ⟨28, 9, true, true, v15, [[int x13, int x92, int x96, int x100, int x104, int 0, int 0, int 0, .sc (.slice none 0 0)]]⟩ sh3 ?_
  refine tr tbk 15 (.mk ?_)
  refine sY (yv_to (y := boo false) (yv_eql rfl rfl rfl) (congrArg boo (by decide))) ?_
  refine tr tbk 4 (.mk ?_)
  obtain ⟨j106, h3, h2⟩ := bind_e h2
  refine rse (Out := fun y H' => (∃ (a : Unit) (k : Unit), a = j106 ∧ y = .pt 2 v15 0 5 ∧ H' = hk [(1, ⟨87, 2, true, true, w0_1, [[str x105.1, boo x105.2]]⟩), (2, ⟨28, 9, true, true, v15, [[int x13, int x92, int x96, int x100, int x104, int 0, int 0, int 0, .sc (.slice none 0 0)]]⟩), (4, ⟨28, 9, true, true, w1_1, y1_4.map GOp.av⟩)])) rfl rfl rfl (yl_call rfl rfl (.cons rfl (.cons rfl .nil)) cal23 ?_) ?_
  refine pcw (c := _) Try.func23 rfl rfl ?_; intro Q hret hnorm
  refine tc tbk 12 (.mk ?_)
  refine sY (yv_to (y := boo false) (yv_eql rfl rfl rfl) (congrArg boo (by decide))) ?_
  refine tr tbk 5 (.mk ?_)
  refine sY (yv_to (y := boo false) (yv_eql rfl rfl rfl) (congrArg boo (by decide))) ?_
  refine tr tbk 5 (.mk ?_)
  refine sY (yv_to (y := boo false) (yv_eql rfl rfl rfl) (congrArg boo (by decide))) ?_
  refine tr tbk 5 (.mk ?_)
  refine sY (yv_to (y := boo false) (yv_eql rfl rfl rfl) (congrArg boo (by decide))) ?_
  refine tr tbk 5 (.mk ?_)
  refine sY (yv_to (y := boo true) (yv_eql rfl rfl rfl) (congrArg boo (by decide))) ?_
  refine tr tbk 10 (.mk ?_)
  obtain rfl := nxt_e h3
  refine w_ret (hret _ _ (hk [(1, ⟨87, 2, true, true, w0_1, [[str x105.1, boo x105.2]]⟩), (2, ⟨28, 9, true, true, v15, [[int x13, int x92, int x96, int x100, int x104, int 0, int 0, int 0, .sc (.slice none 0 0)]]⟩), (4, ⟨28, 9, true, true, w1_1, y1_4.map GOp.av⟩)]) (.tmp rfl .nil) (HK.le ⟨rfl, rfl, rfl, trivial⟩) ?_)
  exact ⟨(), (), rfl, rfl, rfl⟩
  rintro y _ ⟨_, _, rfl, hc, rfl⟩
  subst hc
  refine tr tbk 1 (.mk ?_)
  obtain ⟨p107, h2⟩ := asrt_e h2
  obtain ⟨x108, e108, h2⟩ := bnd_e h2
  obtain ⟨x109, e109, h2⟩ := bnd_e h2
  refine rse rfl rfl rfl (yl_call rfl rfl (.cons rfl .nil) cal31 (PC.mono (numP_c (s := x105) (id := 1) (ver := w0_1) rfl p107) (R' := fun y H' => y = int x108 ∧ H' = upd _ 1 (some (rdr 87 w0_1 x109))) (fun y H' h => ⟨h.1.trans (congrArg int e108), h.2.trans (rdr_cong e109)⟩))) ?_; rintro _ _ ⟨rfl, rfl⟩
  refine tr tbk 1 (.mk ?_)
  refine sS ⟨28, 9, true, true, v15, [[int x13, int x92, int x96, int x100, int x104, int x108, int 0, int 0, .sc (.slice none 0 0)]]⟩ sh3 ?_
  refine tr tbk 15 (.mk ?_)
  refine sY (yv_to (y := boo false) (yv_eql rfl rfl rfl) (congrArg boo (by decide))) ?_
  refine tr tbk 4 (.mk ?_)
  obtain ⟨j110, h3, h2⟩ := bind_e h2
  refine rse (Out := fun y H' => (∃ (a : Unit) (k : Unit), a = j110 ∧ y = .pt 2 v15 0 6 ∧ H' = hk [(1, ⟨87, 2, true, true, w0_1, [[str x109.1, boo x109.2]]⟩), (2, ⟨28, 9, true, true, v15, [[int x13, int x92, int x96, int x100, int x104, int x108, int 0, int 0, .sc (.slice none 0 0)]]⟩), (4, ⟨28, 9, true, true, w1_1, y1_4.map GOp.av⟩)])) rfl rfl rfl (yl_call rfl rfl (.cons rfl (.cons rfl .nil)) cal23 ?_) ?_
  refine pcw (c := _) Try.func23 rfl rfl ?_; intro Q hret hnorm
  refine tc tbk 12 (.mk ?_)
  refine sY (yv_to (y := boo false) (yv_eql rfl rfl rfl) (congrArg boo (by decide))) ?_
  refine tr tbk 5 (.mk ?_)
  refine sY (yv_to (y := boo false) (yv_eql rfl rfl rfl) (congrArg boo (by decide))) ?_
  refine tr tbk 5 (.mk ?_)
  refine sY (yv_to (y := boo false) (yv_eql rfl rfl rfl) (congrArg boo (by decide))) ?_
  refine tr tbk 5 (.mk ?_)
  refine sY (yv_to (y := boo false) (yv_eql rfl rfl rfl) (congrArg boo (by decide))) ?_
  refine tr tbk 5 (.mk ?_)
  refine sY (yv_to (y := boo false) (yv_eql rfl rfl rfl) (congrArg boo (by decide))) ?_
  refine tr tbk 5 (.mk ?_)
  refine sY (yv_to (y := boo true) (yv_eql rfl rfl rfl) (congrArg boo (by decide))) ?_
  refine tr tbk 10 (.mk ?_)
  obtain rfl := nxt_e h3
  refine w_ret (hret _ _ (hk [(1, ⟨87, 2, true, true, w0_1, [[str x109.1, boo x109.2]]⟩), (2, ⟨28, 9, true, true, v15, [[int x13, int x92, int x96, int x100, int x104, int x108, int 0, int 0, .sc (.slice none 0 0)]]⟩), (4, ⟨28, 9, true, true, w1_1, y1_4.map GOp.av⟩)]) (.tmp rfl .nil) (HK.le ⟨rfl, rfl, rfl, trivial⟩) ?_)
  exact ⟨(), (), rfl, rfl, rfl⟩
  rintro y _ ⟨_, _, rfl, hc, rfl⟩
  subst hc
  refine tr tbk 1 (.mk ?_)
  obtain ⟨p111, h2⟩ := asrt_e h2
  obtain ⟨x112, e112, h2⟩ := bnd_e h2
  obtain ⟨x113, e113, h2⟩ := bnd_e h2
  refine rse rfl rfl rfl (yl_call rfl rfl (.cons rfl .nil) cal31 (PC.mono (numP_c (s := x109) (id := 1) (ver := w0_1) rfl p111) (R' := fun y H' => y = int x112 ∧ H' = upd _ 1 (some (rdr 87 w0_1 x113))) (fun y H' h => ⟨h.1.trans (congrArg int e112), h.2.trans (rdr_cong e113)⟩))) ?_; rintro _ _ ⟨rfl, rfl⟩
  refine tr tbk 1 (.mk ?_)
  refine sS ⟨28, 9, true, true, v15, [[int x13, int x92, int x96, int x100, int x104, int x108, int x112, int 0, .sc (.slice none 0 0)]]⟩ sh3 ?_
  refine tr tbk 8 (.mk ?_)
  refine jn h2 [2, 3, 4, 5, 6, 15, 16] [1, 2, 4] (fun (a : Bool) (k : Unit) => [(45, boo a)]) (fun a k => []) ⟨fun j114 h3 => ?_, ?_⟩
  refine tc tbk 2 (.mk ?_)
  refine sY (yv_callR rfl rfl (.cons rfl .nil) cal32 (badP_c (s := x113) (id := 1) (ver := w0_1) rfl) (.sc _)) ?_
  refine tr tbk 1 (.mk ?_)
  obtain ⟨x115, e115, h3⟩ := bnd_e h3
  refine rsas 40 (boo x115) rfl (congrArg boo e115) ?_
  refine rsas 41 (boo x115) rfl (congrArg boo e115) ?_
  cases x115
  replace h3 := cf h3
  refine tr tbk 1 (.mk ?_)
  obtain ⟨x116, e116, h3⟩ := bind_e h3
  refine sY (yv_callP rfl rfl (.cons rfl .nil) cal8 (.cons (CvL.agg (.cons (.refl _) (.cons (.refl _) (.cons (.refl _) (.cons (.refl _) (.cons (.refl _) (.cons (.refl _) (.cons (.refl _) (.cons (.refl _) (.cons (.nil _) .nil)))))))))) .nil) (d_ops_Check_c e116)) ?_
  refine nb tbk h3 fun x117 h3 => ?_
  refine tr tbk 2 (.mk ?_)
  exact lf h3 () leA
  replace h3 := ct h3
  refine tr tbk 5 (.mk ?_)
  exact lf h3 () leA
  rintro y3_1 _ h2
  replace h2 := asrt_e h2
  obtain ⟨rfl, h2⟩ := h2
  refine tc tbk 5 (.mk ?_)
  refine sY (yv_buildSlice (ps := [(0, _)]) (rows := [[int x13, int x92, int x96, int x100, int x104, int x108, int x112, int 0, .sc (.slice none 0 0)]]) rfl Try.underlying22 bz28 (.cons rfl .nil) (by kernel_rfl) rfl rfl rfl) ?_
  obtain ⟨x118, e118, h2⟩ := bnd_e h2
  obtain ⟨p119, h2⟩ := asrt_e h2
  refine rse rfl rfl rfl (yl_appT (g := GOp.av) (l := y1_4) (m := [(⟨x13, x92, x96, x100, x104, x108, x112, 0, []⟩ : GOp)]) .any rfl Try.underlying22 bz28 by28 rfl rfl rfl rfl rfl rfl rfl rfl rfl rfl (Eq.symm rfl) (CvLL.list (.cons (.cons (.refl _) (.cons (.refl _) (.cons (.refl _) (.cons (.refl _) (.cons (.refl _) (.cons (.refl _) (.cons (.refl _) (.cons (.refl _) (.cons (.nil _) .nil))))))))) .nil)) (fun _ => rfl) e118 p119) ?_; rintro _ _ ⟨v120, -, rfl, rfl⟩
  refine tr tbk 3 (.mk ?_)
  exact lf h2 v120 leA
  replace h2 := ct h2
  refine w_rangeD [0, 0, 2, 7, 15] (fun i => bif Nat.beq i 1 then ([2]) else bif Nat.beq i 2 then ([2]) else []) (fun i => [2]) 4 [0, 1, 2, 3] mixed (by kernel_rfl) rfl rfl rfl rfl rfl rfl rfl rfl rfl rfl rfl rfl rfl Try.underlying9 ?_
  refine eP (fun H hH => yv_callP rfl rfl .nil cal20 (CvL.refl _) forms20_c) ?_
  refine eF fo28_0 ?_
  refine eL sh3 ?_
  refine de_as 23 (int 11) rfl (congrArg int (of_decide_eq_true e27)) ?_
  refine de_pure rfl rfl rfl rfl (fun H hH => yv_indexA rfl Try.underlying46 sh45 rfl rfl (by decide) rfl) ?_
  refine ⟨_, rfl, rfl, fun b121 => ?_⟩
  refine tc tbk 13 (.mk ?_)
  refine sY (yv_to (y := boo false) (yv_eql rfl rfl rfl) (congrArg boo (by decide))) ?_
  refine tr tbk 4 (.mk ?_)
  obtain ⟨j122, h3, h2⟩ := bind_e h2
  refine rse (Out := fun y H' => (∃ (a : Unit) (k : Unit), a = j122 ∧ y = .pt 2 v15 0 4 ∧ H' = hk [(1, ⟨87, 2, true, true, w0_1, [[str x14.1, boo x14.2]]⟩), (2, ⟨28, 9, true, true, v15, [[int x13, int 0, int 0, int 0, int 0, int 0, int 0, int 0, .sc (.slice none 0 0)]]⟩), (4, ⟨28, 9, true, true, w1_1, y1_4.map GOp.av⟩)])) rfl rfl rfl (yl_call rfl rfl (.cons rfl (.cons rfl .nil)) cal23 ?_) ?_
  refine pcw (c := _) Try.func23 rfl rfl ?_; intro Q hret hnorm
  refine tc tbk 12 (.mk ?_)
  refine sY (yv_to (y := boo false) (yv_eql rfl rfl rfl) (congrArg boo (by decide))) ?_
  refine tr tbk 5 (.mk ?_)
  refine sY (yv_to (y := boo false) (yv_eql rfl rfl rfl) (congrArg boo (by decide))) ?_
  refine tr tbk 5 (.mk ?_)
  refine sY (yv_to (y := boo false) (yv_eql rfl rfl rfl) (congrArg boo (by decide))) ?_
  refine tr tbk 5 (.mk ?_)
  refine sY (yv_to (y := boo true) (yv_eql rfl rfl rfl) (congrArg boo (by decide))) ?_
  refine tr tbk 10 (.mk ?_)
  obtain rfl := nxt_e h3
  refine w_ret (hret _ _ (hk [(1, ⟨87, 2, true, true, w0_1, [[str x14.1, boo x14.2]]⟩), (2, ⟨28, 9, true, true, v15, [[int x13, int 0, int 0, int 0, int 0, int 0, int 0, int 0, .sc (.slice none 0 0)]]⟩), (4, ⟨28, 9, true, true, w1_1, y1_4.map GOp.av⟩)]) (.tmp rfl .nil) (HK.le ⟨rfl, rfl, rfl, trivial⟩) ?_)
  exact ⟨(), (), rfl, rfl, rfl⟩
  rintro y _ ⟨_, _, rfl, hc, rfl⟩
  subst hc
  refine tr tbk 1 (.mk ?_)
  obtain ⟨p123, h2⟩ := asrt_e h2
  obtain ⟨x124, e124, h2⟩ := bnd_e h2
  obtain ⟨x125, e125, h2⟩ := bnd_e h2
  refine rse rfl rfl rfl (yl_call rfl rfl (.cons rfl .nil) cal31 (PC.mono (numP_c (s := x14) (id := 1) (ver := w0_1) rfl p123) (R' := fun y H' => y = int x124 ∧ H' = upd _ 1 (some (rdr 87 w0_1 x125))) (fun y H' h => ⟨h.1.trans (congrArg int e124), h.2.trans (rdr_cong e125)⟩))) ?_; rintro _ _ ⟨rfl, rfl⟩
  refine tr tbk 1 (.mk ?_)
  refine sS ⟨28, 9, true, true, v15, [[int x13, int 0, int 0, int 0, int x124, int 0, int 0, int 0, .sc (.slice none 0 0)]]⟩ sh3 ?_
  refine tr tbk 15 (.mk ?_)
  refine sY (yv_to (y := boo false) (yv_eql rfl rfl rfl) (congrArg boo (by decide))) ?_
  refine tr tbk 4 (.mk ?_)
  obtain ⟨j126, h3, h2⟩ := bind_e h2
  refine rse (Out := fun y H' => (∃ (a : Unit) (k : Unit), a = j126 ∧ y = .pt 2 v15 0 6 ∧ H' = hk [(1, ⟨87, 2, true, true, w0_1, [[str x125.1, boo x125.2]]⟩), (2, ⟨28, 9, true, true, v15, [[int x13, int 0, int 0, int 0, int x124, int 0, int 0, int 0, .sc (.slice none 0 0)]]⟩), (4, ⟨28, 9, true, true, w1_1, y1_4.map GOp.av⟩)])) rfl rfl rfl (yl_call rfl rfl (.cons rfl (.cons rfl .nil)) cal23 ?_) ?_
  refine pcw (c := _) Try.func23 rfl rfl ?_; intro Q hret hnorm
  refine tc tbk 12 (.mk ?_)
  refine sY (yv_to (y := boo false) (yv_eql rfl rfl rfl) (congrArg boo (by decide))) ?_
  refine tr tbk 5 (.mk ?_)
  refine sY (yv_to (y := boo false) (yv_eql rfl rfl rfl) (congrArg boo (by decide))) ?_
  refine tr tbk 5 (.mk ?_)
  refine sY (yv_to (y := boo false) (yv_eql rfl rfl rfl) (congrArg boo (by decide))) ?_
  refine tr tbk 5 (.mk ?_)
  refine sY (yv_to (y := boo false) (yv_eql rfl rfl rfl) (congrArg boo (by decide))) ?_
  refine tr tbk 5 (.mk ?_)
  refine sY (yv_to (y := boo false) (yv_eql rfl rfl rfl) (congrArg boo (by decide))) ?_
  refine tr tbk 5 (.mk ?_)
  refine sY (yv_to (y := boo true) (yv_eql rfl rfl rfl) (congrArg boo (by decide))) ?_
  refine tr tbk 10 (.mk ?_)
  obtain rfl := nxt_e h3
  refine w_ret (hret _ _ (hk [(1, ⟨87, 2, true, true, w0_1, [[str x125.1, boo x125.2]]⟩), (2, ⟨28, 9, true, true, v15, [[int x13, int 0, int 0, int 0, int x124, int 0, int 0, int 0, .sc (.slice none 0 0)]]⟩), (4, ⟨28, 9, true, true, w1_1, y1_4.map GOp.av⟩)]) (.tmp rfl .nil) (HK.le ⟨rfl, rfl, rfl, trivial⟩) ?_)
  exact ⟨(), (), rfl, rfl, rfl⟩
  rintro y _ ⟨_, _, rfl, hc, rfl⟩
  subst hc
  refine tr tbk 1 (.mk ?_)
  obtain ⟨p127, h2⟩ := asrt_e h2
  obtain ⟨x128, e128, h2⟩ := bnd_e h2
  obtain ⟨x129, e129, h2⟩ := bnd_e h2
  refine rse rfl rfl rfl (yl_call rfl rfl (.cons rfl .nil) cal31 (PC.mono (numP_c (s := x125) (id := 1) (ver := w0_1) rfl p127) (R' := fun y H' => y = int x128 ∧ H' = upd _ 1 (some (rdr 87 w0_1 x129))) (fun y H' h => ⟨h.1.trans (congrArg int e128), h.2.trans (rdr_cong e129)⟩))) ?_; rintro _ _ ⟨rfl, rfl⟩
  refine tr tbk 1 (.mk ?_)
  refine sS ⟨28, 9, true, true, v15, [[int x13, int 0, int 0, int 0, int x124, int 0, int x128, int 0, .sc (.slice none 0 0)]]⟩ sh3 ?_
  refine tr tbk 15 (.mk ?_)
  refine sY (yv_to (y := boo true) (yv_eql rfl rfl rfl) (congrArg boo (by decide))) ?_
  refine tr tbk 4 (.mk ?_)
  obtain ⟨p130, h2⟩ := asrt_e h2
  obtain ⟨p131, h2⟩ := asrt_e h2
  obtain ⟨x132, e132, h2⟩ := bnd_e h2
  obtain ⟨x133, e133, h2⟩ := bnd_e h2
  refine rse rfl rfl rfl (yl_call rfl rfl (.cons rfl (.cons rfl .nil)) cal30 (PC.mono (listP_c (most := 40) (s := x129) (id := 1) (ver := w0_1) rfl p130 p131 rfl rfl) (R' := fun y H' => y = ints x132 ∧ H' = upd _ 1 (some (rdr 87 w0_1 x133))) (fun y H' h => ⟨h.1.trans (congrArg ints e132), h.2.trans (rdr_cong e133)⟩))) ?_; rintro _ _ ⟨rfl, rfl⟩
  refine tr tbk 1 (.mk ?_)
  refine sS ⟨28, 9, true, true, v15, [[int x13, int 0, int 0, int 0, int x124, int 0, int x128, int 0, lst 1 fI x132]]⟩ sh26 ?_
  refine tr tbk 8 (.mk ?_)
  refine jn h2 [2, 3, 4, 5, 6, 15, 16] [1, 2, 4] (fun (a : Bool) (k : Unit) => [(45, boo a)]) (fun a k => []) ⟨fun j134 h3 => ?_, ?_⟩
  refine tc tbk 2 (.mk ?_)
  refine sY (yv_callR rfl rfl (.cons rfl .nil) cal32 (badP_c (s := x133) (id := 1) (ver := w0_1) rfl) (.sc _)) ?_
  refine tr tbk 1 (.mk ?_)
  obtain ⟨x135, e135, h3⟩ := bnd_e h3
  refine rsas 40 (boo x135) rfl (congrArg boo e135) ?_
  refine rsas 41 (boo x135) rfl (congrArg boo e135) ?_
  cases x135
  replace h3 := cf h3
  refine tr tbk 1 (.mk ?_)
  obtain ⟨x136, e136, h3⟩ := bind_e h3
  refine sC cal8 (d_ops_Check_c e136) ?_
  refine nb tbk h3 fun x137 h3 => ?_
  refine tr tbk 2 (.mk ?_)
  exact lf h3 () leA
  replace h3 := ct h3
  refine tr tbk 5 (.mk ?_)
  exact lf h3 () leA
  rintro y3_1 _ h2
  replace h2 := asrt_e h2
  obtain ⟨rfl, h2⟩ := h2
  refine tc tbk 5 (.mk ?_)
  refine sY (yv_to (y := lst 9 GOp.av ([(⟨x13, 0, 0, 0, x124, 0, x128, 0, x132⟩ : GOp)] : List GOp)) (yv_buildSlice (ps := [(0, _)]) (rows := [[int x13, int 0, int 0, int 0, int x124, int 0, int x128, int 0, lst 1 fI x132]]) rfl Try.underlying22 bz28 (.cons rfl .nil) (by kernel_rfl) rfl rfl rfl) rfl) ?_
  obtain ⟨x138, e138, h2⟩ := bnd_e h2
  obtain ⟨p139, h2⟩ := asrt_e h2
  refine rse rfl rfl rfl (yl_appT (g := GOp.av) (l := y1_4) (m := ([(⟨x13, 0, 0, 0, x124, 0, x128, 0, x132⟩ : GOp)] : List GOp)) .any rfl Try.underlying22 bz28 by28 rfl rfl rfl rfl rfl rfl rfl rfl rfl rfl (Eq.symm rfl) (.refl _) (fun _ => rfl) e138 p139) ?_; rintro _ _ ⟨v140, -, rfl, rfl⟩
  refine tr tbk 3 (.mk ?_)
  exact lf h2 v140 leA
  replace h2 := ct h2
  refine w_rangeD [0, 0, 2, 7, 15] (fun i => bif Nat.beq i 1 then ([2]) else bif Nat.beq i 2 then ([2]) else []) (fun i => [2]) 4 [0, 1, 2, 3] mixed (by kernel_rfl) rfl rfl rfl rfl rfl rfl rfl rfl rfl rfl rfl rfl rfl Try.underlying9 ?_
  refine eP (fun H hH => yv_callP rfl rfl .nil cal20 (CvL.refl _) forms20_c) ?_
  refine eF fo28_0 ?_
  refine eL sh3 ?_
  refine de_as 23 (int 10) rfl (congrArg int (of_decide_eq_true e26)) ?_
  refine de_pure rfl rfl rfl rfl (fun H hH => yv_indexA rfl Try.underlying46 sh45 rfl rfl (by decide) rfl) ?_
  refine ⟨_, rfl, rfl, fun b141 => ?_⟩
  refine tc tbk 13 (.mk ?_)
  refine sY (yv_to (y := boo false) (yv_eql rfl rfl rfl) (congrArg boo (by decide))) ?_
  refine tr tbk 4 (.mk ?_)
  obtain ⟨j142, h3, h2⟩ := bind_e h2
  refine rse (Out := fun y H' => (∃ (a : Unit) (k : Unit), a = j142 ∧ y = .pt 2 v15 0 1 ∧ H' = hk [(1, ⟨87, 2, true, true, w0_1, [[str x14.1, boo x14.2]]⟩), (2, ⟨28, 9, true, true, v15, [[int x13, int 0, int 0, int 0, int 0, int 0, int 0, int 0, .sc (.slice none 0 0)]]⟩), (4, ⟨28, 9, true, true, w1_1, y1_4.map GOp.av⟩)])) rfl rfl rfl (yl_call rfl rfl (.cons rfl (.cons rfl .nil)) cal23 ?_) ?_
  refine pcw (c := _) Try.func23 rfl rfl ?_; intro Q hret hnorm
  refine tc tbk 12 (.mk ?_)
  refine sY (yv_to (y := boo true) (yv_eql rfl rfl rfl) (congrArg boo (by decide))) ?_
  refine tr tbk 10 (.mk ?_)
  obtain rfl := nxt_e h3
  refine w_ret (hret _ _ (hk [(1, ⟨87, 2, true, true, w0_1, [[str x14.1, boo x14.2]]⟩), (2, ⟨28, 9, true, true, v15, [[int x13, int 0, int 0, int 0, int 0, int 0, int 0, int 0, .sc (.slice none 0 0)]]⟩), (4, ⟨28, 9, true, true, w1_1, y1_4.map GOp.av⟩)]) (.tmp rfl .nil) (HK.le ⟨rfl, rfl, rfl, trivial⟩) ?_)
  exact ⟨(), (), rfl, rfl, rfl⟩
  rintro y _ ⟨_, _, rfl, hc, rfl⟩
  subst hc
  refine tr tbk 1 (.mk ?_)
  obtain ⟨p143, h2⟩ := asrt_e h2
  obtain ⟨x144, e144, h2⟩ := bnd_e h2
  obtain ⟨x145, e145, h2⟩ := bnd_e h2
  refine rse rfl rfl rfl (yl_call rfl rfl (.cons rfl .nil) cal31 (PC.mono (numP_c (s := x14) (id := 1) (ver := w0_1) rfl p143) (R' := fun y H' => y = int x144 ∧ H' = upd _ 1 (some (rdr 87 w0_1 x145))) (fun y H' h => ⟨h.1.trans (congrArg int e144), h.2.trans (rdr_cong e145)⟩))) ?_; rintro _ _ ⟨rfl, rfl⟩
  refine tr tbk 1 (.mk ?_)
  refine sS ⟨28, 9, true, true, v15, [[int x13, int x144, int 0, int 0, int 0, int 0, int 0, int 0, .sc (.slice none 0 0)]]⟩ sh3 ?_
  refine tr tbk 15 (.mk ?_)
  refine sY (yv_to (y := boo false) (yv_eql rfl rfl rfl) (congrArg boo (by decide))) ?_
  refine tr tbk 4 (.mk ?_)
  obtain ⟨j146, h3, h2⟩ := bind_e h2
  refine rse (Out := fun y H' => (∃ (a : Unit) (k : Unit), a = j146 ∧ y = .pt 2 v15 0 2 ∧ H' = hk [(1, ⟨87, 2, true, true, w0_1, [[str x145.1, boo x145.2]]⟩), (2, ⟨28, 9, true, true, v15, [[int x13, int x144, int 0, int 0, int 0, int 0, int 0, int 0, .sc (.slice none 0 0)]]⟩), (4, ⟨28, 9, true, true, w1_1, y1_4.map GOp.av⟩)])) rfl rfl rfl (yl_call rfl rfl (.cons rfl (.cons rfl .nil)) cal23 ?_) ?_
  refine pcw (c := _) Try.func23 rfl rfl ?_; intro Q hret hnorm
  refine tc tbk 12 (.mk ?_)
  refine sY (yv_to (y := boo false) (yv_eql rfl rfl rfl) (congrArg boo (by decide))) ?_
  refine tr tbk 5 (.mk ?_)
  refine sY (yv_to (y := boo true) (yv_eql rfl rfl rfl) (congrArg boo (by decide))) ?_
  refine tr tbk 10 (.mk ?_)
  obtain rfl := nxt_e h3
  refine w_ret (hret _ _ (hk [(1, ⟨87, 2, true, true, w0_1, [[str x145.1, boo x145.2]]⟩), (2, ⟨28, 9, true, true, v15, [[int x13, int x144, int 0, int 0, int 0, int 0, int 0, int 0, .sc (.slice none 0 0)]]⟩), (4, ⟨28, 9, true, true, w1_1, y1_4.map GOp.av⟩)]) (.tmp rfl .nil) (HK.le ⟨rfl, rfl, rfl, trivial⟩) ?_)
  exact ⟨(), (), rfl, rfl, rfl⟩
  rintro y _ ⟨_, _, rfl, hc, rfl⟩
  subst hc
  refine tr tbk 1 (.mk ?_)
  obtain ⟨p147, h2⟩ := asrt_e h2
  obtain ⟨x148, e148, h2⟩ := bnd_e h2
  obtain ⟨x149, e149, h2⟩ := bnd_e h2
  refine rse rfl rfl rfl (yl_call rfl rfl (.cons rfl .nil) cal31 (PC.mono (numP_c (s := x145) (id := 1) (ver := w0_1) rfl p147) (R' := fun y H' => y = int x148 ∧ H' = upd _ 1 (some (rdr 87 w0_1 x149))) (fun y H' h => ⟨h.1.trans (congrArg int e148), h.2.trans (rdr_cong e149)⟩))) ?_; rintro _ _ ⟨rfl, rfl⟩
  refine tr tbk 1 (.mk ?_)
  refine sS ⟨28, 9, true, true, v15, [[int x13, int x144, int x148, int 0, int 0, int 0, int 0, int 0, .sc (.slice none 0 0)]]⟩ sh3 ?_
  refine tr tbk 15 (.mk ?_)
  refine sY (yv_to (y := boo false) (yv_eql rfl rfl rfl) (congrArg boo (by decide))) ?_
  refine tr tbk 4 (.mk ?_)
  obtain ⟨j150, h3, h2⟩ := bind_e h2
  refine rse (Out := fun y H' => (∃ (a : Unit) (k : Unit), a = j150 ∧ y = .pt 2 v15 0 6 ∧ H' = hk [(1, ⟨87, 2, true, true, w0_1, [[str x149.1, boo x149.2]]⟩), (2, ⟨28, 9, true, true, v15, [[int x13, int x144, int x148, int 0, int 0, int 0, int 0, int 0, .sc (.slice none 0 0)]]⟩), (4, ⟨28, 9, true, true, w1_1, y1_4.map GOp.av⟩)])) rfl rfl rfl (yl_call rfl rfl (.cons rfl (.cons rfl .nil)) cal23 ?_) ?_
  refine pcw (c := _) Try.func23 rfl rfl ?_; intro Q hret hnorm
  refine tc tbk 12 (.mk ?_)
  refine sY (yv_to (y := boo false) (yv_eql rfl rfl rfl) (congrArg boo (by decide))) ?_
  refine tr tbk 5 (.mk ?_)
  refine sY (yv_to (y := boo false) (yv_eql rfl rfl rfl) (congrArg boo (by decide))) ?_
  refine tr tbk 5 (.mk ?_)
  refine sY (yv_to (y := boo false) (yv_eql rfl rfl rfl) (congrArg boo (by decide))) ?_
  refine tr tbk 5 (.mk ?_)
  refine sY (yv_to (y := boo false) (yv_eql rfl rfl rfl) (congrArg boo (by decide))) ?_
  refine tr tbk 5 (.mk ?_)
  refine sY (yv_to (y := boo false) (yv_eql rfl rfl rfl) (congrArg boo (by decide))) ?_
  refine tr tbk 5 (.mk ?_)
  refine sY (yv_to (y := boo true) (yv_eql rfl rfl rfl) (congrArg boo (by decide))) ?_
  refine tr tbk 10 (.mk ?_)
  obtain rfl := nxt_e h3
  refine w_ret (hret _ _ (hk [(1, ⟨87, 2, true, true, w0_1, [[str x149.1, boo x149.2]]⟩), (2, ⟨28, 9, true, true, v15, [[int x13, int x144, int x148, int 0, int 0, int 0, int 0, int 0, .sc (.slice none 0 0)]]⟩), (4, ⟨28, 9, true, true, w1_1, y1_4.map GOp.av⟩)]) (.tmp rfl .nil) (HK.le ⟨rfl, rfl, rfl, trivial⟩) ?_)
  exact ⟨(), (), rfl, rfl, rfl⟩
  rintro y _ ⟨_, _, rfl, hc, rfl⟩
  subst hc
  refine tr tbk 1 (.mk ?_)
  obtain ⟨p151, h2⟩ := asrt_e h2
  obtain ⟨x152, e152, h2⟩ := bnd_e h2
  obtain ⟨x153, e153, h2⟩ := bnd_e h2
  refine rse rfl rfl rfl (yl_call rfl rfl (.cons rfl .nil) cal31 (PC.mono (numP_c (s := x149) (id := 1) (ver := w0_1) rfl p151) (R' := fun y H' => y = int x152 ∧ H' = upd _ 1 (some (rdr 87 w0_1 x153))) (fun y H' h => ⟨h.1.trans (congrArg int e152), h.2.trans (rdr_cong e153)⟩))) ?_; rintro _ _ ⟨rfl, rfl⟩
  refine tr tbk 1 (.mk ?_)
  refine sS ⟨28, 9, true, true, v15, [[int x13, int x144, int x148, int 0, int 0, int 0, int x152, int 0, .sc (.slice none 0 0)]]⟩ sh3 ?_
  refine tr tbk 8 (.mk ?_)
  refine jn h2 [2, 3, 4, 5, 6, 15, 16] [1, 2, 4] (fun (a : Bool) (k : Unit) => [(45, boo a)]) (fun a k => []) ⟨fun j154 h3 => ?_, ?_⟩
  refine tc tbk 2 (.mk ?_)
  refine sY (yv_callR rfl rfl (.cons rfl .nil) cal32 (badP_c (s := x153) (id := 1) (ver := w0_1) rfl) (.sc _)) ?_
  refine tr tbk 1 (.mk ?_)
  obtain ⟨x155, e155, h3⟩ := bnd_e h3
  refine rsas 40 (boo x155) rfl (congrArg boo e155) ?_
  refine rsas 41 (boo x155) rfl (congrArg boo e155) ?_
  cases x155
  replace h3 := cf h3
  refine tr tbk 1 (.mk ?_)
  obtain ⟨x156, e156, h3⟩ := bind_e h3
  refine sY (yv_callP rfl rfl (.cons rfl .nil) cal8 (.cons (CvL.agg (.cons (.refl _) (.cons (.refl _) (.cons (.refl _) (.cons (.refl _) (.cons (.refl _) (.cons (.refl _) (.cons (.refl _) (.cons (.refl _) (.cons (.nil _) .nil)))))))))) .nil) (d_ops_Check_c e156)) ?_
  refine nb tbk h3 fun x157 h3 => ?_
  refine tr tbk 2 (.mk ?_)
  exact lf h3 () leA
  replace h3 := ct h3
  refine tr tbk 5 (.mk ?_)
  exact lf h3 () leA
  rintro y3_1 _ h2
  replace h2 := asrt_e h2
  obtain ⟨rfl, h2⟩ := h2
  refine tc tbk 5 (.mk ?_)
  refine sY (yv_buildSlice (ps := [(0, _)]) (rows := [[int x13, int x144, int x148, int 0, int 0, int 0, int x152, int 0, .sc (.slice none 0 0)]]) rfl Try.underlying22 bz28 (.cons rfl .nil) (by kernel_rfl) rfl rfl rfl) ?_
  obtain ⟨x158, e158, h2⟩ := bnd_e h2
  obtain ⟨p159, h2⟩ := asrt_e h2
  refine rse rfl rfl rfl (yl_appT (g := GOp.av) (l := y1_4) (m := [(⟨x13, x144, x148, 0, 0, 0, x152, 0, []⟩ : GOp)]) .any rfl Try.underlying22 bz28 by28 rfl rfl rfl rfl rfl rfl rfl rfl rfl rfl (Eq.symm rfl) (CvLL.list (.cons (.cons (.refl _) (.cons (.refl _) (.cons (.refl _) (.cons (.refl _) (.cons (.refl _) (.cons (.refl _) (.cons (.refl _) (.cons (.refl _) (.cons (.nil _) .nil))))))))) .nil)) (fun _ => rfl) e158 p159) ?_; rintro _ _ ⟨v160, -, rfl, rfl⟩
  refine tr tbk 3 (.mk ?_)
  exact lf h2 v160 leA
  replace h2 := ct h2
  refine w_rangeD [0, 0, 2, 7, 15] (fun i => bif Nat.beq i 1 then ([2]) else bif Nat.beq i 2 then ([2]) else []) (fun i => [2]) 4 [0, 1, 2, 3] mixed (by kernel_rfl) rfl rfl rfl rfl rfl rfl rfl rfl rfl rfl rfl rfl rfl Try.underlying9 ?_
  refine eP (fun H hH => yv_callP rfl rfl .nil cal20 (CvL.refl _) forms20_c) ?_
  refine eF fo28_0 ?_
  refine eL sh3 ?_
  refine de_as 23 (int 9) rfl (congrArg int (of_decide_eq_true e25)) ?_
  refine de_pure rfl rfl rfl rfl (fun H hH => yv_indexA rfl Try.underlying46 sh45 rfl rfl (by decide) rfl) ?_
  refine ⟨_, rfl, rfl, fun b161 => ?_⟩
  refine tc tbk 13 (.mk ?_)
  refine sY (yv_to (y := boo false) (yv_eql rfl rfl rfl) (congrArg boo (by decide))) ?_
  refine tr tbk 4 (.mk ?_)
  obtain ⟨j162, h3, h2⟩ := bind_e h2
  refine rse (Out := fun y H' => (∃ (a : Unit) (k : Unit), a = j162 ∧ y = .pt 2 v15 0 1 ∧ H' = hk [(1, ⟨87, 2, true, true, w0_1, [[str x14.1, boo x14.2]]⟩), (2, ⟨28, 9, true, true, v15, [[int x13, int 0, int 0, int 0, int 0, int 0, int 0, int 0, .sc (.slice none 0 0)]]⟩), (4, ⟨28, 9, true, true, w1_1, y1_4.map GOp.av⟩)])) rfl rfl rfl (yl_call rfl rfl (.cons rfl (.cons rfl .nil)) cal23 ?_) ?_
  refine pcw (c := _) Try.func23 rfl rfl ?_; intro Q hret hnorm
  refine tc tbk 12 (.mk ?_)
  refine sY (yv_to (y := boo true) (yv_eql rfl rfl rfl) (congrArg boo (by decide))) ?_
  refine tr tbk 10 (.mk ?_)
  obtain rfl := nxt_e h3
  refine w_ret (hret _ _ (hk [(1, ⟨87, 2, true, true, w0_1, [[str x14.1, boo x14.2]]⟩), (2, ⟨28, 9, true, true, v15, [[int x13, int 0, int 0, int 0, int 0, int 0, int 0, int 0, .sc (.slice none 0 0)]]⟩), (4, ⟨28, 9, true, true, w1_1, y1_4.map GOp.av⟩)]) (.tmp rfl .nil) (HK.le ⟨rfl, rfl, rfl, trivial⟩) ?_)
  exact ⟨(), (), rfl, rfl, rfl⟩
  rintro y _ ⟨_, _, rfl, hc, rfl⟩
  subst hc
  refine tr tbk 1 (.mk ?_)
  obtain ⟨p163, h2⟩ := asrt_e h2
  obtain ⟨x164, e164, h2⟩ := bnd_e h2
  obtain ⟨x165, e165, h2⟩ := bnd_e h2
  refine rse rfl rfl rfl (yl_call rfl rfl (.cons rfl .nil) cal31 (PC.mono (numP_c (s := x14) (id := 1) (ver := w0_1) rfl p163) (R' := fun y H' => y = int x164 ∧ H' = upd _ 1 (some (rdr 87 w0_1 x165))) (fun y H' h => ⟨h.1.trans (congrArg int e164), h.2.trans (rdr_cong e165)⟩))) ?_; rintro _ _ ⟨rfl, rfl⟩
  refine tr tbk 1 (.mk ?_)
  refine sS ⟨28, 9, true, true, v15, [[int x13, int x164, int 0, int 0, int 0, int 0, int 0, int 0, .sc (.slice none 0 0)]]⟩ sh3 ?_
  refine tr tbk 15 (.mk ?_)
  refine sY (yv_to (y := boo false) (yv_eql rfl rfl rfl) (congrArg boo (by decide))) ?_
  refine tr tbk 4 (.mk ?_)
  obtain ⟨j166, h3, h2⟩ := bind_e h2
  refine rse (Out := fun y H' => (∃ (a : Unit) (k : Unit), a = j166 ∧ y = .pt 2 v15 0 2 ∧ H' = hk [(1, ⟨87, 2, true, true, w0_1, [[str x165.1, boo x165.2]]⟩), (2, ⟨28, 9, true, true, v15, [[int x13, int x164, int 0, int 0, int 0, int 0, int 0, int 0, .sc (.slice none 0 0)]]⟩), (4, ⟨28, 9, true, true, w1_1, y1_4.map GOp.av⟩)])) rfl rfl rfl (yl_call rfl rfl (.cons rfl (.cons rfl .nil)) cal23 ?_) ?_
  refine pcw (c := _) Try.func23 rfl rfl ?_; intro Q hret hnorm
  refine tc tbk 12 (.mk ?_)
  refine sY (yv_to (y := boo false) (yv_eql rfl rfl rfl) (congrArg boo (by decide))) ?_
  refine tr tbk 5 (.mk ?_)
  refine sY (yv_to (y := boo true) (yv_eql rfl rfl rfl) (congrArg boo (by decide))) ?_
  refine tr tbk 10 (.mk ?_)
  obtain rfl := nxt_e h3
  refine w_ret (hret _ _ (hk [(1, ⟨87, 2, true, true, w0_1, [[str x165.1, boo x165.2]]⟩), (2, ⟨28, 9, true, true, v15, [[int x13, int x164, int 0, int 0, int 0, int 0, int 0, int 0, .sc (.slice none 0 0)]]⟩), (4, ⟨28, 9, true, true, w1_1, y1_4.map GOp.av⟩)]) (.tmp rfl .nil) (HK.le ⟨rfl, rfl, rfl, trivial⟩) ?_)
  exact ⟨(), (), rfl, rfl, rfl⟩
  rintro y _ ⟨_, _, rfl, hc, rfl⟩
  subst hc
  refine tr tbk 1 (.mk ?_)
  obtain ⟨p167, h2⟩ := asrt_e h2
  obtain ⟨x168, e168, h2⟩ := bnd_e h2
  obtain ⟨x169, e169, h2⟩ := bnd_e h2
  refine rse rfl rfl rfl (yl_call rfl rfl (.cons rfl .nil) cal31 (PC.mono (numP_c (s := x165) (id := 1) (ver := w0_1) rfl p167) (R' := fun y H' => y = int x168 ∧ H' = upd _ 1 (some (rdr 87 w0_1 x169))) (fun y H' h => ⟨h.1.trans (congrArg int e168), h.2.trans (rdr_cong e169)⟩))) ?_; rintro _ _ ⟨rfl, rfl⟩
  refine tr tbk 1 (.mk ?_)
  refine sS ⟨28, 9, true, true, v15, [[int x13, int x164, int x168, int 0, int 0, int 0, int 0, int 0, .sc (.slice none 0 0)]]⟩ sh3 ?_
  refine tr tbk 15 (.mk ?_)
  refine sY (yv_to (y := boo false) (yv_eql rfl rfl rfl) (congrArg boo (by decide))) ?_
  refine tr tbk 4 (.mk ?_)
  obtain ⟨j170, h3, h2⟩ := bind_e h2
  refine rse (Out := fun y H' => (∃ (a : Unit) (k : Unit), a = j170 ∧ y = .pt 2 v15 0 6 ∧ H' = hk [(1, ⟨87, 2, true, true, w0_1, [[str x169.1, boo x169.2]]⟩), (2, ⟨28, 9, true, true, v15, [[int x13, int x164, int x168, int 0, int 0, int 0, int 0, int 0, .sc (.slice none 0 0)]]⟩), (4, ⟨28, 9, true, true, w1_1, y1_4.map GOp.av⟩)])) rfl rfl rfl (yl_call rfl rfl (.cons rfl (.cons rfl .nil)) cal23 ?_) ?_
  refine pcw (c := _) Try.func23 rfl rfl ?_; intro Q hret hnorm
  refine tc tbk 12 (.mk ?_)
  refine sY (yv_to (y := boo false) (yv_eql rfl rfl rfl) (congrArg boo (by decide))) ?_
  refine tr tbk 5 (.mk ?_)
  refine sY (yv_to (y := boo false) (yv_eql rfl rfl rfl) (congrArg boo (by decide))) ?_
  refine tr tbk 5 (.mk ?_)
  refine sY (yv_to (y := boo false) (yv_eql rfl rfl rfl) (congrArg boo (by decide))) ?_
  refine tr tbk 5 (.mk ?_)
  refine sY (yv_to (y := boo false) (yv_eql rfl rfl rfl) (congrArg boo (by decide))) ?_
  refine tr tbk 5 (.mk ?_)
  refine sY (yv_to (y := boo false) (yv_eql rfl rfl rfl) (congrArg boo (by decide))) ?_
  refine tr tbk 5 (.mk ?_)
  refine sY (yv_to (y := boo true) (yv_eql rfl rfl rfl) (congrArg boo (by decide))) ?_
  refine tr tbk 10 (.mk ?_)
  obtain rfl := nxt_e h3
  refine w_ret (hret _ _ (hk [(1, ⟨87, 2, true, true, w0_1, [[str x169.1, boo x169.2]]⟩), (2, ⟨28, 9, true, true, v15, [[int x13, int x164, int x168, int 0, int 0, int 0, int 0, int 0, .sc (.slice none 0 0)]]⟩), (4, ⟨28, 9, true, true, w1_1, y1_4.map GOp.av⟩)]) (.tmp rfl .nil) (HK.le ⟨rfl, rfl, rfl, trivial⟩) ?_)
  exact ⟨(), (), rfl, rfl, rfl⟩
  rintro y _ ⟨_, _, rfl, hc, rfl⟩
  subst hc
  refine tr tbk 1 (.mk ?_)
  obtain ⟨p171, h2⟩ := asrt_e h2
  obtain ⟨x172, e172, h2⟩ := bnd_e h2
  obtain ⟨x173, e173, h2⟩ := bnd_e h2
  refine rse rfl rfl rfl (yl_call rfl rfl (.cons rfl .nil) cal31 (PC.mono (numP_c (s := x169) (id := 1) (ver := w0_1) rfl p171) (R' := fun y H' => y = int x172 ∧ H' = upd _ 1 (some (rdr 87 w0_1 x173))) (fun y H' h => ⟨h.1.trans (congrArg int e172), h.2.trans (rdr_cong e173)⟩))) ?_; rintro _ _ ⟨rfl, rfl⟩
  refine tr tbk 1 (.mk ?_)
  refine sS ⟨28, 9, true, true, v15, [[int x13, int x164, int x168, int 0, int 0, int 0, int x172, int 0, .sc (.slice none 0 0)]]⟩ sh3 ?_
  refine tr tbk 8 (.mk ?_)
  refine jn h2 [2, 3, 4, 5, 6, 15, 16] [1, 2, 4] (fun (a : Bool) (k : Unit) => [(45, boo a)]) (fun a k => []) ⟨fun j174 h3 => ?_, ?_⟩
  refine tc tbk 2 (.mk ?_)
  refine sY (yv_callR rfl rfl (.cons rfl .nil) cal32 (badP_c (s := x173) (id := 1) (ver := w0_1) rfl) (.sc _)) ?_
  refine tr tbk 1 (.mk ?_)
  obtain ⟨x175, e175, h3⟩ := bnd_e h3
  refine rsas 40 (boo x175) rfl (congrArg boo e175) ?_
  refine rsas 41 (boo x175) rfl (congrArg boo e175) ?_
  cases x175
  replace h3 := cf h3
  refine tr tbk 1 (.mk ?_)
  obtain ⟨x176, e176, h3⟩ := bind_e h3
  refine sY (yv_callP rfl rfl (.cons rfl .nil) cal8 (.cons (CvL.agg (.cons (.refl _) (.cons (.refl _) (.cons (.refl _) (.cons (.refl _) (.cons (.refl _) (.cons (.refl _) (.cons (.refl _) (.cons (.refl _) (.cons (.nil _) .nil)))))))))) .nil) (d_ops_Check_c e176)) ?_
  refine nb tbk h3 fun x177 h3 => ?_
  refine tr tbk 2 (.mk ?_)
  exact lf h3 () leA
  replace h3 := ct h3
  refine tr tbk 5 (.mk ?_)
  exact lf h3 () leA
  rintro y3_1 _ h2
  replace h2 := asrt_e h2
  obtain ⟨rfl, h2⟩ := h2
  refine tc tbk 5 (.mk ?_)
  refine sY (yv_buildSlice (ps := [(0, _)]) (rows := [[int x13, int x164, int x168, int 0, int 0, int 0, int x172, int 0, .sc (.slice none 0 0)]]) rfl Try.underlying22 bz28 (.cons rfl .nil) (by kernel_rfl) rfl rfl rfl) ?_
  obtain ⟨x178, e178, h2⟩ := bnd_e h2
  obtain ⟨p179, h2⟩ := asrt_e h2
  refine rse rfl rfl rfl (yl_appT (g := GOp.av) (l := y1_4) (m := [(⟨x13, x164, x168, 0, 0, 0, x172, 0, []⟩ : GOp)]) .any rfl Try.underlying22 bz28 by28 rfl rfl rfl rfl rfl rfl rfl rfl rfl rfl (Eq.symm rfl) (CvLL.list (.cons (.cons (.refl _) (.cons (.refl _) (.cons (.refl _) (.cons (.refl _) (.cons (.refl _) (.cons (.refl _) (.cons (.refl _) (.cons (.refl _) (.cons (.nil _) .nil))))))))) .nil)) (fun _ => rfl) e178 p179) ?_; rintro _ _ ⟨v180, -, rfl, rfl⟩
  refine tr tbk 3 (.mk ?_)
  exact lf h2 v180 leA
  replace h2 := ct h2
  refine w_rangeD [0, 0, 2, 7, 15] (fun i => bif Nat.beq i 1 then ([2]) else bif Nat.beq i 2 then ([2]) else []) (fun i => [2]) 4 [0, 1, 2, 3] mixed (by kernel_rfl) rfl rfl rfl rfl rfl rfl rfl rfl rfl rfl rfl rfl rfl Try.underlying9 ?_
  refine eP (fun H hH => yv_callP rfl rfl .nil cal20 (CvL.refl _) forms20_c) ?_
  refine eF fo28_0 ?_
  refine eL sh3 ?_
  refine de_as 23 (int 8) rfl (congrArg int (of_decide_eq_true e24)) ?_
  refine de_pure rfl rfl rfl rfl (fun H hH => yv_indexA rfl Try.underlying46 sh45 rfl rfl (by decide) rfl) ?_
  refine ⟨_, rfl, rfl, fun b181 => ?_⟩
  refine tc tbk 13 (.mk ?_)
  refine sY (yv_to (y := boo false) (yv_eql rfl rfl rfl) (congrArg boo (by decide))) ?_
  refine tr tbk 4 (.mk ?_)
  obtain ⟨j182, h3, h2⟩ := bind_e h2
  refine rse (Out := fun y H' => (∃ (a : Unit) (k : Unit), a = j182 ∧ y = .pt 2 v15 0 1 ∧ H' = hk [(1, ⟨87, 2, true, true, w0_1, [[str x14.1, boo x14.2]]⟩), (2, ⟨28, 9, true, true, v15, [[int x13, int 0, int 0, int 0, int 0, int 0, int 0, int 0, .sc (.slice none 0 0)]]⟩), (4, ⟨28, 9, true, true, w1_1, y1_4.map GOp.av⟩)])) rfl rfl rfl (yl_call rfl rfl (.cons rfl (.cons rfl .nil)) cal23 ?_) ?_
  refine pcw (c := _) Try.func23 rfl rfl ?_; intro Q hret hnorm
  refine tc tbk 12 (.mk ?_)
  refine sY (yv_to (y := boo true) (yv_eql rfl rfl rfl) (congrArg boo (by decide))) ?_
  refine tr tbk 10 (.mk ?_)
  obtain rfl := nxt_e h3
  refine w_ret (hret _ _ (hk [(1, ⟨87, 2, true, true, w0_1, [[str x14.1, boo x14.2]]⟩), (2, ⟨28, 9, true, true, v15, [[int x13, int 0, int 0, int 0, int 0, int 0, int 0, int 0, .sc (.slice none 0 0)]]⟩), (4, ⟨28, 9, true, true, w1_1, y1_4.map GOp.av⟩)]) (.tmp rfl .nil) (HK.le ⟨rfl, rfl, rfl, trivial⟩) ?_)
  exact ⟨(), (), rfl, rfl, rfl⟩
  rintro y _ ⟨_, _, rfl, hc, rfl⟩
  subst hc
  refine tr tbk 1 (.mk ?_)
  obtain ⟨p183, h2⟩ := asrt_e h2
  obtain ⟨x184, e184, h2⟩ := bnd_e h2
  obtain ⟨x185, e185, h2⟩ := bnd_e h2
  refine rse rfl rfl rfl (yl_call rfl rfl (.cons rfl .nil) cal31 (PC.mono (numP_c (s := x14) (id := 1) (ver := w0_1) rfl p183) (R' := fun y H' => y = int x184 ∧ H' = upd _ 1 (some (rdr 87 w0_1 x185))) (fun y H' h => ⟨h.1.trans (congrArg int e184), h.2.trans (rdr_cong e185)⟩))) ?_; rintro _ _ ⟨rfl, rfl⟩
  refine tr tbk 1 (.mk ?_)
  refine sS ⟨28, 9, true, true, v15, [[int x13, int x184, int 0, int 0, int 0, int 0, int 0, int 0, .sc (.slice none 0 0)]]⟩ sh3 ?_
  refine tr tbk 15 (.mk ?_)
  refine sY (yv_to (y := boo false) (yv_eql rfl rfl rfl) (congrArg boo (by decide))) ?_
  refine tr tbk 4 (.mk ?_)
  obtain ⟨j186, h3, h2⟩ := bind_e h2
  refine rse (Out := fun y H' => (∃ (a : Unit) (k : Unit), a = j186 ∧ y = .pt 2 v15 0 2 ∧ H' = hk [(1, ⟨87, 2, true, true, w0_1, [[str x185.1, boo x185.2]]⟩), (2, ⟨28, 9, true, true, v15, [[int x13, int x184, int 0, int 0, int 0, int 0, int 0, int 0, .sc (.slice none 0 0)]]⟩), (4, ⟨28, 9, true, true, w1_1, y1_4.map GOp.av⟩)])) rfl rfl rfl (yl_call rfl rfl (.cons rfl (.cons rfl .nil)) cal23 ?_) ?_
  refine pcw (c := _) Try.func23 rfl rfl ?_; intro Q hret hnorm
  refine tc tbk 12 (.mk ?_)
  refine sY (yv_to (y := boo false) (yv_eql rfl rfl rfl) (congrArg boo (by decide))) ?_
  refine tr tbk 5 (.mk ?_)
  refine sY (yv_to (y := boo true) (yv_eql rfl rfl rfl) (congrArg boo (by decide))) ?_
  refine tr tbk 10 (.mk ?_)
  obtain rfl := nxt_e h3
  refine w_ret (hret _ _ (hk [(1, ⟨87, 2, true, true, w0_1, [[str x185.1, boo x185.2]]⟩), (2, ⟨28, 9, true, true, v15, [[int x13, int x184, int 0, int 0, int 0, int 0, int 0, int 0, .sc (.slice none 0 0)]]⟩), (4, ⟨28, 9, true, true, w1_1, y1_4.map GOp.av⟩)]) (.tmp rfl .nil) (HK.le ⟨rfl, rfl, rfl, trivial⟩) ?_)
  exact ⟨(), (), rfl, rfl, rfl⟩
  rintro y _ ⟨_, _, rfl, hc, rfl⟩
  subst hc
  refine tr tbk 1 (.mk ?_)
  obtain ⟨p187, h2⟩ := asrt_e h2
  obtain ⟨x188, e188, h2⟩ := bnd_e h2
  obtain ⟨x189, e189, h2⟩ := bnd_e h2
  refine rse rfl rfl rfl (yl_call rfl rfl (.cons rfl .nil) cal31 (PC.mono (numP_c (s := x185) (id := 1) (ver := w0_1) rfl p187) (R' := fun y H' => y = int x188 ∧ H' = upd _ 1 (some (rdr 87 w0_1 x189))) (fun y H' h => ⟨h.1.trans (congrArg int e188), h.2.trans (rdr_cong e189)⟩))) ?_; rintro _ _ ⟨rfl, rfl⟩
  refine tr tbk 1 (.mk ?_)
  refine sS ⟨28, 9, true, true, v15, [[int x13, int x184, int x188, int 0, int 0, int 0, int 0, int 0, .sc (.slice none 0 0)]]⟩ sh3 ?_
  refine tr tbk 15 (.mk ?_)
  refine sY (yv_to (y := boo false) (yv_eql rfl rfl rfl) (congrArg boo (by decide))) ?_
  refine tr tbk 4 (.mk ?_)
  obtain ⟨j190, h3, h2⟩ := bind_e h2
  refine rse (Out := fun y H' => (∃ (a : Unit) (k : Unit), a = j190 ∧ y = .pt 2 v15 0 3 ∧ H' = hk [(1, ⟨87, 2, true, true, w0_1, [[str x189.1, boo x189.2]]⟩), (2, ⟨28, 9, true, true, v15, [[int x13, int x184, int x188, int 0, int 0, int 0, int 0, int 0, .sc (.slice none 0 0)]]⟩), (4, ⟨28, 9, true, true, w1_1, y1_4.map GOp.av⟩)])) rfl rfl rfl (yl_call rfl rfl (.cons rfl (.cons rfl .nil)) cal23 ?_) ?_
  refine pcw (c := _) Try.func23 rfl rfl ?_; intro Q hret hnorm
  refine tc tbk 12 (.mk ?_)
  refine sY (yv_to (y := boo false) (yv_eql rfl rfl rfl) (congrArg boo (by decide))) ?_
  refine tr tbk 5 (.mk ?_)
  refine sY (yv_to (y := boo false) (yv_eql rfl rfl rfl) (congrArg boo (by decide))) ?_
  refine tr tbk 5 (.mk ?_)
  refine sY (yv_to (y := boo true) (yv_eql rfl rfl rfl) (congrArg boo (by decide))) ?_
  refine tr tbk 10 (.mk ?_)
  obtain rfl := nxt_e h3
  refine w_ret (hret _ _ (hk [(1, ⟨87, 2, true, true, w0_1, [[str x189.1, boo x189.2]]⟩), (2, ⟨28, 9, true, true, v15, [[int x13, int x184, int x188, int 0, int 0, int 0, int 0, int 0, .sc (.slice none 0 0)]]⟩), (4, ⟨28, 9, true, true, w1_1, y1_4.map GOp.av⟩)]) (.tmp rfl .nil) (HK.le ⟨rfl, rfl, rfl, trivial⟩) ?_)
  exact ⟨(), (), rfl, rfl, rfl⟩
  rintro y _ ⟨_, _, rfl, hc, rfl⟩
  subst hc
  refine tr tbk 1 (.mk ?_)
  obtain ⟨p191, h2⟩ := asrt_e h2
  obtain ⟨x192, e192, h2⟩ := bnd_e h2
  obtain ⟨x193, e193, h2⟩ := bnd_e h2
  refine rse rfl rfl rfl (yl_call rfl rfl (.cons rfl .nil) cal31 (PC.mono (numP_c (s := x189) (id := 1) (ver := w0_1) rfl p191) (R' := fun y H' => y = int x192 ∧ H' = upd _ 1 (some (rdr 87 w0_1 x193))) (fun y H' h => ⟨h.1.trans (congrArg int e192), h.2.trans (rdr_cong e193)⟩))) ?_; rintro _ _ ⟨rfl, rfl⟩
  refine tr tbk 1 (.mk ?_)
  refine sS ⟨28, 9, true, true, v15, [[int x13, int x184, int x188, int x192, int 0, int 0, int 0, int 0, .sc (.slice none 0 0)]]⟩ sh3 ?_
  refine tr tbk 15 (.mk ?_)
  refine sY (yv_to (y := boo false) (yv_eql rfl rfl rfl) (congrArg boo (by decide))) ?_
  refine tr tbk 4 (.mk ?_)
  obtain ⟨j194, h3, h2⟩ := bind_e h2
  refine rse (Out := fun y H' => (∃ (a : Unit) (k : Unit), a = j194 ∧ y = .pt 2 v15 0 4 ∧ H' = hk [(1, ⟨87, 2, true, true, w0_1, [[str x193.1, boo x193.2]]⟩), (2, ⟨28, 9, true, true, v15, [[int x13, int x184, int x188, int x192, int 0, int 0, int 0, int 0, .sc (.slice none 0 0)]]⟩), (4, ⟨28, 9, true, true, w1_1, y1_4.map GOp.av⟩)])) rfl rfl rfl (yl_call rfl rfl (.cons rfl (.cons rfl .nil)) cal23 ?_) ?_
  refine pcw (c := _) Try.func23 rfl rfl ?_; intro Q hret hnorm
  refine tc tbk 12 (.mk ?_)
  refine sY (yv_to (y := boo false) (yv_eql rfl rfl rfl) (congrArg boo (by decide))) ?_
  refine tr tbk 5 (.mk ?_)
  refine sY (yv_to (y := boo false) (yv_eql rfl rfl rfl) (congrArg boo (by decide))) ?_
  refine tr tbk 5 (.mk ?_)
  refine sY (yv_to (y := boo false) (yv_eql rfl rfl rfl) (congrArg boo (by decide))) ?_
  refine tr tbk 5 (.mk ?_)
  refine sY (yv_to (y := boo true) (yv_eql rfl rfl rfl) (congrArg boo (by decide))) ?_
  refine tr tbk 10 (.mk ?_)
  obtain rfl := nxt_e h3
  refine w_ret (hret _ _ (hk [(1, ⟨87, 2, true, true, w0_1, [[str x193.1, boo x193.2]]⟩), (2, ⟨28, 9, true, true, v15, [[int x13, int x184, int x188, int x192, int 0, int 0, int 0, int 0, .sc (.slice none 0 0)]]⟩), (4, ⟨28, 9, true, true, w1_1, y1_4.map GOp.av⟩)]) (.tmp rfl .nil) (HK.le ⟨rfl, rfl, rfl, trivial⟩) ?_)
  exact ⟨(), (), rfl, rfl, rfl⟩
  rintro y _ ⟨_, _, rfl, hc, rfl⟩
  subst hc
  refine tr tbk 1 (.mk ?_)
  obtain ⟨p195, h2⟩ := asrt_e h2
  obtain ⟨x196, e196, h2⟩ := bnd_e h2
  obtain ⟨x197, e197, h2⟩ := bnd_e h2
  refine rse rfl rfl rfl (yl_call rfl rfl (.cons rfl .nil) cal31 (PC.mono (numP_c (s := x193) (id := 1) (ver := w0_1) rfl p195) (R' := fun y H' => y = int x196 ∧ H' = upd _ 1 (some (rdr 87 w0_1 x197))) (fun y H' h => ⟨h.1.trans (congrArg int e196), h.2.trans (rdr_cong e197)⟩))) ?_; rintro _ _ ⟨rfl, rfl⟩
  refine tr tbk 1 (.mk ?_)
  refine sS ⟨28, 9, true, true, v15, [[int x13, int x184, int x188, int x192, int x196, int 0, int 0, int 0, .sc (.slice none 0 0)]]⟩ sh3 ?_
  refine tr tbk 15 (.mk ?_)
  refine sY (yv_to (y := boo false) (yv_eql rfl rfl rfl) (congrArg boo (by decide))) ?_
  refine tr tbk 4 (.mk ?_)
  obtain ⟨j198, h3, h2⟩ := bind_e h2
  refine rse (Out := fun y H' => (∃ (a : Unit) (k : Unit), a = j198 ∧ y = .pt 2 v15 0 5 ∧ H' = hk [(1, ⟨87, 2, true, true, w0_1, [[str x197.1, boo x197.2]]⟩), (2, ⟨28, 9, true, true, v15, [[int x13, int x184, int x188, int x192, int x196, int 0, int 0, int 0, .sc (.slice none 0 0)]]⟩), (4, ⟨28, 9, true, true, w1_1, y1_4.map GOp.av⟩)])) rfl rfl rfl (yl_call rfl rfl (.cons rfl (.cons rfl .nil)) cal23 ?_) ?_
  refine pcw (c := _) Try.func23 rfl rfl ?_; intro Q hret hnorm
  refine tc tbk 12 (.mk ?_)
  refine sY (yv_to (y := boo false) (yv_eql rfl rfl rfl) (congrArg boo (by decide))) ?_
  refine tr tbk 5 (.mk ?_)
  refine sY (yv_to (y := boo false) (yv_eql rfl rfl rfl) (congrArg boo (by decide))) ?_
  refine tr tbk 5 (.mk ?_)
  refine sY (yv_to (y := boo false) (yv_eql rfl rfl rfl) (congrArg boo (by decide))) ?_
  refine tr tbk 5 (.mk ?_)
  refine sY (yv_to (y := boo false) (yv_eql rfl rfl rfl) (congrArg boo (by decide))) ?_
  refine tr tbk 5 (.mk ?_)
  refine sY (yv_to (y := boo true) (yv_eql rfl rfl rfl) (congrArg boo (by decide))) ?_
  refine tr tbk 10 (.mk ?_)
  obtain rfl := nxt_e h3
  refine w_ret (hret _ _ (hk [(1, ⟨87, 2, true, true, w0_1, [[str x197.1, boo x197.2]]⟩), (2, ⟨28, 9, true, true, v15, [[int x13, int x184, int x188, int x192, int x196, int 0, int 0, int 0, .sc (.slice none 0 0)]]⟩), (4, ⟨28, 9, true, true, w1_1, y1_4.map GOp.av⟩)]) (.tmp rfl .nil) (HK.le ⟨rfl, rfl, rfl, trivial⟩) ?_)
  exact ⟨(), (), rfl, rfl, rfl⟩
  rintro y _ ⟨_, _, rfl, hc, rfl⟩
  subst hc
  refine tr tbk 1 (.mk ?_)
  obtain ⟨p199, h2⟩ := asrt_e h2
  obtain ⟨x200, e200, h2⟩ := bnd_e h2
  obtain ⟨x201, e201, h2⟩ := bnd_e h2
  refine rse rfl rfl rfl (yl_call rfl rfl (.cons rfl .nil) cal31 (PC.mono (numP_c (s := x197) (id := 1) (ver := w0_1) rfl p199) (R' := fun y H' => y = int x200 ∧ H' = upd _ 1 (some (rdr 87 w0_1 x201))) (fun y H' h => ⟨h.1.trans (congrArg int e200), h.2.trans (rdr_cong e201)⟩))) ?_; rintro _ _ ⟨rfl, rfl⟩
  refine tr tbk 1 (.mk ?_)
  refine sS ⟨28, 9, true, true, v15, [[int x13, int x184, int x188, int x192, int x196, int x200, int 0, int 0, .sc (.slice none 0 0)]]⟩ sh3 ?_
  refine tr tbk 8 (.mk ?_)
  refine jn h2 [2, 3, 4, 5, 6, 15, 16] [1, 2, 4] (fun (a : Bool) (k : Unit) => [(45, boo a)]) (fun a k => []) ⟨fun j202 h3 => ?_, ?_⟩
  refine tc tbk 2 (.mk ?_)
  refine sY (yv_callR rfl rfl (.cons rfl .nil) cal32 (badP_c (s := x201) (id := 1) (ver := w0_1) rfl) (.sc _)) ?_
  refine tr tbk 1 (.mk ?_)
  obtain ⟨x203, e203, h3⟩ := bnd_e h3
  refine rsas 40 (boo x203) rfl (congrArg boo e203) ?_
  refine rsas 41 (boo x203) rfl (congrArg boo e203) ?_
  cases x203
  replace h3 := cf h3
  refine tr tbk 1 (.mk ?_)
  obtain ⟨x204, e204, h3⟩ := bind_e h3
  refine sY (yv_callP rfl rfl (.cons rfl .nil) cal8 (.cons (CvL.agg (.cons (.refl _) (.cons (.refl _) (.cons (.refl _) (.cons (.refl _) (.cons (.refl _) (.cons (.refl _) (.cons (.refl _) (.cons (.refl _) (.cons (.nil _) .nil)))))))))) .nil) (d_ops_Check_c e204)) ?_
  refine nb tbk h3 fun x205 h3 => ?_
  refine tr tbk 2 (.mk ?_)
  exact lf h3 () leA
  replace h3 := ct h3
  refine tr tbk 5 (.mk ?_)
  exact lf h3 () leA
  rintro y3_1 _ h2
  replace h2 := asrt_e h2
  obtain ⟨rfl, h2⟩ := h2
  refine tc tbk 5 (.mk ?_)
  refine sY (yv_buildSlice (ps := [(0, _)]) (rows := [[int x13, int x184, int x188, int x192, int x196, int x200, int 0, int 0, .sc (.slice none 0 0)]]) rfl Try.underlying22 bz28 (.cons rfl .nil) (by kernel_rfl) rfl rfl rfl) ?_
  obtain ⟨x206, e206, h2⟩ := bnd_e h2
  obtain ⟨p207, h2⟩ := asrt_e h2
  refine rse rfl rfl rfl (yl_appT (g := GOp.av) (l := y1_4) (m := [(⟨x13, x184, x188, x192, x196, x200, 0, 0, []⟩ : GOp)]) .any rfl Try.underlying22 bz28 by28 rfl rfl rfl rfl rfl rfl rfl rfl rfl rfl (Eq.symm rfl) (CvLL.list (.cons (.cons (.refl _) (.cons (.refl _) (.cons (.refl _) (.cons (.refl _) (.cons (.refl _) (.cons (.refl _) (.cons (.refl _) (.cons (.refl _) (.cons (.nil _) .nil))))))))) .nil)) (fun _ => rfl) e206 p207) ?_; rintro _ _ ⟨v208, -, rfl, rfl⟩
  refine tr tbk 3 (.mk ?_)
  exact lf h2 v208 leA
  replace h2 := ct h2
  refine w_rangeD [0, 0, 2, 7, 15] (fun i => bif Nat.beq i 1 then ([2]) else bif Nat.beq i 2 then ([2]) else []) (fun i => [2]) 4 [0, 1, 2, 3] mixed (by kernel_rfl) rfl rfl rfl rfl rfl rfl rfl rfl rfl rfl rfl rfl rfl Try.underlying9 ?_
  refine eP (fun H hH => yv_callP rfl rfl .nil cal20 (CvL.refl _) forms20_c) ?_
  refine eF fo28_0 ?_
  refine eL sh3 ?_
  refine de_as 23 (int 7) rfl (congrArg int (of_decide_eq_true e23)) ?_
  refine de_pure rfl rfl rfl rfl (fun H hH => yv_indexA rfl Try.underlying46 sh45 rfl rfl (by decide) rfl) ?_
  refine ⟨_, rfl, rfl, fun b209 => ?_⟩
  refine tc tbk 13 (.mk ?_)
  refine sY (yv_to (y := boo false) (yv_eql rfl rfl rfl) (congrArg boo (by decide))) ?_
  refine tr tbk 4 (.mk ?_)
  obtain ⟨j210, h3, h2⟩ := bind_e h2
  refine rse (Out := fun y H' => (∃ (a : Unit) (k : Unit), a = j210 ∧ y = .pt 2 v15 0 1 ∧ H' = hk [(1, ⟨87, 2, true, true, w0_1, [[str x14.1, boo x14.2]]⟩), (2, ⟨28, 9, true, true, v15, [[int x13, int 0, int 0, int 0, int 0, int 0, int 0, int 0, .sc (.slice none 0 0)]]⟩), (4, ⟨28, 9, true, true, w1_1, y1_4.map GOp.av⟩)])) rfl rfl rfl (yl_call rfl rfl (.cons rfl (.cons rfl .nil)) cal23 ?_) ?_
  refine pcw (c := _) Try.func23 rfl rfl ?_; intro Q hret hnorm
  refine tc tbk 12 (.mk ?_)
  refine sY (yv_to (y := boo true) (yv_eql rfl rfl rfl) (congrArg boo (by decide))) ?_
  refine tr tbk 10 (.mk ?_)
  obtain rfl := nxt_e h3
  refine w_ret (hret _ _ (hk [(1, ⟨87, 2, true, true, w0_1, [[str x14.1, boo x14.2]]⟩), (2, ⟨28, 9, true, true, v15, [[int x13, int 0, int 0, int 0, int 0, int 0, int 0, int 0, .sc (.slice none 0 0)]]⟩), (4, ⟨28, 9, true, true, w1_1, y1_4.map GOp.av⟩)]) (.tmp rfl .nil) (HK.le ⟨rfl, rfl, rfl, trivial⟩) ?_)
  exact ⟨(), (), rfl, rfl, rfl⟩
  rintro y _ ⟨_, _, rfl, hc, rfl⟩
  subst hc
  refine tr tbk 1 (.mk ?_)
  obtain ⟨p211, h2⟩ := asrt_e h2
  obtain ⟨x212, e212, h2⟩ := bnd_e h2
  obtain ⟨x213, e213, h2⟩ := bnd_e h2
  refine rse rfl rfl rfl (yl_call rfl rfl (.cons rfl .nil) cal31 (PC.mono (numP_c (s := x14) (id := 1) (ver := w0_1) rfl p211) (R' := fun y H' => y = int x212 ∧ H' = upd _ 1 (some (rdr 87 w0_1 x213))) (fun y H' h => ⟨h.1.trans (congrArg int e212), h.2.trans (rdr_cong e213)⟩))) ?_; rintro _ _ ⟨rfl, rfl⟩
  refine tr tbk 1 (.mk ?_)
  refine sS ⟨28, 9, true, true, v15, [[int x13, int x212, int 0, int 0, int 0, int 0, int 0, int 0, .sc (.slice none 0 0)]]⟩ sh3 ?_
  refine tr tbk 15 (.mk ?_)
  refine sY (yv_to (y := boo false) (yv_eql rfl rfl rfl) (congrArg boo (by decide))) ?_
  refine tr tbk 4 (.mk ?_)
  obtain ⟨j214, h3, h2⟩ := bind_e h2
  refine rse (Out := fun y H' => (∃ (a : Unit) (k : Unit), a = j214 ∧ y = .pt 2 v15 0 2 ∧ H' = hk [(1, ⟨87, 2, true, true, w0_1, [[str x213.1, boo x213.2]]⟩), (2, ⟨28, 9, true, true, v15, [[int x13, int x212, int 0, int 0, int 0, int 0, int 0, int 0, .sc (.slice none 0 0)]]⟩), (4, ⟨28, 9, true, true, w1_1, y1_4.map GOp.av⟩)])) rfl rfl rfl (yl_call rfl rfl (.cons rfl (.cons rfl .nil)) cal23 ?_) ?_
  refine pcw (c := _) Try.func23 rfl rfl ?_; intro Q hret hnorm
  refine tc tbk 12 (.mk ?_)
  refine sY (yv_to (y := boo false) (yv_eql rfl rfl rfl) (congrArg boo (by decide))) ?_
  refine tr tbk 5 (.mk ?_)
  refine sY (yv_to (y := boo true) (yv_eql rfl rfl rfl) (congrArg boo (by decide))) ?_
  refine tr tbk 10 (.mk ?_)
  obtain rfl := nxt_e h3
  refine w_ret (hret _ _ (hk [(1, ⟨87, 2, true, true, w0_1, [[str x213.1, boo x213.2]]⟩), (2, ⟨28, 9, true, true, v15, [[int x13, int x212, int 0, int 0, int 0, int 0, int 0, int 0, .sc (.slice none 0 0)]]⟩), (4, ⟨28, 9, true, true, w1_1, y1_4.map GOp.av⟩)]) (.tmp rfl .nil) (HK.le ⟨rfl, rfl, rfl, trivial⟩) ?_)
  exact ⟨(), (), rfl, rfl, rfl⟩
  rintro y _ ⟨_, _, rfl, hc, rfl⟩
  subst hc
  refine tr tbk 1 (.mk ?_)
  obtain ⟨p215, h2⟩ := asrt_e h2
  obtain ⟨x216, e216, h2⟩ := bnd_e h2
  obtain ⟨x217, e217, h2⟩ := bnd_e h2
  refine rse rfl rfl rfl (yl_call rfl rfl (.cons rfl .nil) cal31 (PC.mono (numP_c (s := x213) (id := 1) (ver := w0_1) rfl p215) (R' := fun y H' => y = int x216 ∧ H' = upd _ 1 (some (rdr 87 w0_1 x217))) (fun y H' h => ⟨h.1.trans (congrArg int e216), h.2.trans (rdr_cong e217)⟩))) ?_; rintro _ _ ⟨rfl, rfl⟩
  refine tr tbk 1 (.mk ?_)
  refine sS ⟨28, 9, true, true, v15, [[int x13, int x212, int x216, int 0, int 0, int 0, int 0, int 0, .sc (.slice none 0 0)]]⟩ sh3 ?_
  refine tr tbk 15 (.mk ?_)
  refine sY (yv_to (y := boo false) (yv_eql rfl rfl rfl) (congrArg boo (by decide))) ?_
  refine tr tbk 4 (.mk ?_)
  obtain ⟨j218, h3, h2⟩ := bind_e h2
  refine rse (Out := fun y H' => (∃ (a : Unit) (k : Unit), a = j218 ∧ y = .pt 2 v15 0 3 ∧ H' = hk [(1, ⟨87, 2, true, true, w0_1, [[str x217.1, boo x217.2]]⟩), (2, ⟨28, 9, true, true, v15, [[int x13, int x212, int x216, int 0, int 0, int 0, int 0, int 0, .sc (.slice none 0 0)]]⟩), (4, ⟨28, 9, true, true, w1_1, y1_4.map GOp.av⟩)])) rfl rfl rfl (yl_call rfl rfl (.cons rfl (.cons rfl .nil)) cal23 ?_) ?_
  refine pcw (c := _) Try.func23 rfl rfl ?_; intro Q hret hnorm
  refine tc tbk 12 (.mk ?_)
  refine sY (yv_to (y := boo false) (yv_eql rfl rfl rfl) (congrArg boo (by decide))) ?_
  refine tr tbk 5 (.mk ?_)
  refine sY (yv_to (y := boo false) (yv_eql rfl rfl rfl) (congrArg boo (by decide))) ?_
  refine tr tbk 5 (.mk ?_)
  refine sY (yv_to (y := boo true) (yv_eql rfl rfl rfl) (congrArg boo (by decide))) ?_
  refine tr tbk 10 (.mk ?_)
  obtain rfl := nxt_e h3
  refine w_ret (hret _ _ (hk [(1, ⟨87, 2, true, true, w0_1, [[str x217.1, boo x217.2]]⟩), (2, ⟨28, 9, true, true, v15, [[int x13, int x212, int x216, int 0, int 0, int 0, int 0, int 0, .sc (.slice none 0 0)]]⟩), (4, ⟨28, 9, true, true, w1_1, y1_4.map GOp.av⟩)]) (.tmp rfl .nil) (HK.le ⟨rfl, rfl, rfl, trivial⟩) ?_)
  exact ⟨(), (), rfl, rfl, rfl⟩
  rintro y _ ⟨_, _, rfl, hc, rfl⟩
  subst hc
  refine tr tbk 1 (.mk ?_)
  obtain ⟨p219, h2⟩ := asrt_e h2
  obtain ⟨x220, e220, h2⟩ := bnd_e h2
  obtain ⟨x221, e221, h2⟩ := bnd_e h2
  refine rse rfl rfl rfl (yl_call rfl rfl (.cons rfl .nil) cal31 (PC.mono (numP_c (s := x217) (id := 1) (ver := w0_1) rfl p219) (R' := fun y H' => y = int x220 ∧ H' = upd _ 1 (some (rdr 87 w0_1 x221))) (fun y H' h => ⟨h.1.trans (congrArg int e220), h.2.trans (rdr_cong e221)⟩))) ?_; rintro _ _ ⟨rfl, rfl⟩
  refine tr tbk 1 (.mk ?_)
  refine sS ⟨28, 9, true, true, v15, [[int x13, int x212, int x216, int x220, int 0, int 0, int 0, int 0, .sc (.slice none 0 0)]]⟩ sh3 ?_
  refine tr tbk 15 (.mk ?_)
  refine sY (yv_to (y := boo false) (yv_eql rfl rfl rfl) (congrArg boo (by decide))) ?_
  refine tr tbk 4 (.mk ?_)
  obtain ⟨j222, h3, h2⟩ := bind_e h2
  refine rse (Out := fun y H' => (∃ (a : Unit) (k : Unit), a = j222 ∧ y = .pt 2 v15 0 5 ∧ H' = hk [(1, ⟨87, 2, true, true, w0_1, [[str x221.1, boo x221.2]]⟩), (2, ⟨28, 9, true, true, v15, [[int x13, int x212, int x216, int x220, int 0, int 0, int 0, int 0, .sc (.slice none 0 0)]]⟩), (4, ⟨28, 9, true, true, w1_1, y1_4.map GOp.av⟩)])) rfl rfl rfl (yl_call rfl rfl (.cons rfl (.cons rfl .nil)) cal23 ?_) ?_
  refine pcw (c := _) Try.func23 rfl rfl ?_; intro Q hret hnorm
  refine tc tbk 12 (.mk ?_)
  refine sY (yv_to (y := boo false) (yv_eql rfl rfl rfl) (congrArg boo (by decide))) ?_
  refine tr tbk 5 (.mk ?_)
  refine sY (yv_to (y := boo false) (yv_eql rfl rfl rfl) (congrArg boo (by decide))) ?_
  refine tr tbk 5 (.mk ?_)
  refine sY (yv_to (y := boo false) (yv_eql rfl rfl rfl) (congrArg boo (by decide))) ?_
  refine tr tbk 5 (.mk ?_)
  refine sY (yv_to (y := boo false) (yv_eql rfl rfl rfl) (congrArg boo (by decide))) ?_
  refine tr tbk 5 (.mk ?_)
  refine sY (yv_to (y := boo true) (yv_eql rfl rfl rfl) (congrArg boo (by decide))) ?_
  refine tr tbk 10 (.mk ?_)
  obtain rfl := nxt_e h3
  refine w_ret (hret _ _ (hk [(1, ⟨87, 2, true, true, w0_1, [[str x221.1, boo x221.2]]⟩), (2, ⟨28, 9, true, true, v15, [[int x13, int x212, int x216, int x220, int 0, int 0, int 0, int 0, .sc (.slice none 0 0)]]⟩), (4, ⟨28, 9, true, true, w1_1, y1_4.map GOp.av⟩)]) (.tmp rfl .nil) (HK.le ⟨rfl, rfl, rfl, trivial⟩) ?_)
  exact ⟨(), (), rfl, rfl, rfl⟩
  rintro y _ ⟨_, _, rfl, hc, rfl⟩
  subst hc
  refine tr tbk 1 (.mk ?_)
  obtain ⟨p223, h2⟩ := asrt_e h2
  obtain ⟨x224, e224, h2⟩ := bnd_e h2
  obtain ⟨x225, e225, h2⟩ := bnd_e h2
  refine rse rfl rfl rfl (yl_call rfl rfl (.cons rfl .nil) cal31 (PC.mono (numP_c (s := x221) (id := 1) (ver := w0_1) rfl p223) (R' := fun y H' => y = int x224 ∧ H' = upd _ 1 (some (rdr 87 w0_1 x225))) (fun y H' h => ⟨h.1.trans (congrArg int e224), h.2.trans (rdr_cong e225)⟩))) ?_; rintro _ _ ⟨rfl, rfl⟩
  refine tr tbk 1 (.mk ?_)
  refine sS ⟨28, 9, true, true, v15, [[int x13, int x212, int x216, int x220, int 0, int x224, int 0, int 0, .sc (.slice none 0 0)]]⟩ sh3 ?_
  refine tr tbk 8 (.mk ?_)
  refine jn h2 [2, 3, 4, 5, 6, 15, 16] [1, 2, 4] (fun (a : Bool) (k : Unit) => [(45, boo a)]) (fun a k => []) ⟨fun j226 h3 => ?_, ?_⟩
  refine tc tbk 2 (.mk ?_)
  refine sY (yv_callR rfl rfl (.cons rfl .nil) cal32 (badP_c (s := x225) (id := 1) (ver := w0_1) rfl) (.sc _)) ?_
  refine tr tbk 1 (.mk ?_)
  obtain ⟨x227, e227, h3⟩ := bnd_e h3
  refine rsas 40 (boo x227) rfl (congrArg boo e227) ?_
  refine rsas 41 (boo x227) rfl (congrArg boo e227) ?_
  cases x227
  replace h3 := cf h3
  refine tr tbk 1 (.mk ?_)
  obtain ⟨x228, e228, h3⟩ := bind_e h3
  refine sY (yv_callP rfl rfl (.cons rfl .nil) cal8 (.cons (CvL.agg (.cons (.refl _) (.cons (.refl _) (.cons (.refl _) (.cons (.refl _) (.cons (.refl _) (.cons (.refl _) (.cons (.refl _) (.cons (.refl _) (.cons (.nil _) .nil)))))))))) .nil) (d_ops_Check_c e228)) ?_
  refine nb tbk h3 fun x229 h3 => ?_
  refine tr tbk 2 (.mk ?_)
  exact lf h3 () leA
  replace h3 := ct h3
  refine tr tbk 5 (.mk ?_)
  exact lf h3 () leA
  rintro y3_1 _ h2
  replace h2 := asrt_e h2
  obtain ⟨rfl, h2⟩ := h2
  refine tc tbk 5 (.mk ?_)
  refine sY (yv_buildSlice (ps := [(0, _)]) (rows := [[int x13, int x212, int x216, int x220, int 0, int x224, int 0, int 0, .sc (.slice none 0 0)]]) rfl Try.underlying22 bz28 (.cons rfl .nil) (by kernel_rfl) rfl rfl rfl) ?_
  obtain ⟨x230, e230, h2⟩ := bnd_e h2
  obtain ⟨p231, h2⟩ := asrt_e h2
  refine rse rfl rfl rfl (yl_appT (g := GOp.av) (l := y1_4) (m := [(⟨x13, x212, x216, x220, 0, x224, 0, 0, []⟩ : GOp)]) .any rfl Try.underlying22 bz28 by28 rfl rfl rfl rfl rfl rfl rfl rfl rfl rfl (Eq.symm rfl) (CvLL.list (.cons (.cons (.refl _) (.cons (.refl _) (.cons (.refl _) (.cons (.refl _) (.cons (.refl _) (.cons (.refl _) (.cons (.refl _) (.cons (.refl _) (.cons (.nil _) .nil))))))))) .nil)) (fun _ => rfl) e230 p231) ?_; rintro _ _ ⟨v232, -, rfl, rfl⟩
  refine tr tbk 3 (.mk ?_)
  exact lf h2 v232 leA
  replace h2 := ct h2
  refine w_rangeD [0, 0, 2, 7, 15] (fun i => bif Nat.beq i 1 then ([2]) else bif Nat.beq i 2 then ([2]) else []) (fun i => [2]) 4 [0, 1, 2, 3] mixed (by kernel_rfl) rfl rfl rfl rfl rfl rfl rfl rfl rfl rfl rfl rfl rfl Try.underlying9 ?_
  refine eP (fun H hH => yv_callP rfl rfl .nil cal20 (CvL.refl _) forms20_c) ?_
  refine eF fo28_0 ?_
  refine eL sh3 ?_
  refine de_as 23 (int 6) rfl (congrArg int (of_decide_eq_true e22)) ?_
  refine de_pure rfl rfl rfl rfl (fun H hH => yv_indexA rfl Try.underlying46 sh45 rfl rfl (by decide) rfl) ?_
  refine ⟨_, rfl, rfl, fun b233 => ?_⟩
  refine tc tbk 13 (.mk ?_)
  refine sY (yv_to (y := boo false) (yv_eql rfl rfl rfl) (congrArg boo (by decide))) ?_
  refine tr tbk 4 (.mk ?_)
  obtain ⟨j234, h3, h2⟩ := bind_e h2
  refine rse (Out := fun y H' => (∃ (a : Unit) (k : Unit), a = j234 ∧ y = .pt 2 v15 0 1 ∧ H' = hk [(1, ⟨87, 2, true, true, w0_1, [[str x14.1, boo x14.2]]⟩), (2, ⟨28, 9, true, true, v15, [[int x13, int 0, int 0, int 0, int 0, int 0, int 0, int 0, .sc (.slice none 0 0)]]⟩), (4, ⟨28, 9, true, true, w1_1, y1_4.map GOp.av⟩)])) rfl rfl rfl (yl_call rfl rfl (.cons rfl (.cons rfl .nil)) cal23 ?_) ?_
  refine pcw (c := _) Try.func23 rfl rfl ?_; intro Q hret hnorm
  refine tc tbk 12 (.mk ?_)
  refine sY (yv_to (y := boo true) (yv_eql rfl rfl rfl) (congrArg boo (by decide))) ?_
  refine tr tbk 10 (.mk ?_)
  obtain rfl := nxt_e h3
  refine w_ret (hret _ _ (hk [(1, ⟨87, 2, true, true, w0_1, [[str x14.1, boo x14.2]]⟩), (2, ⟨28, 9, true, true, v15, [[int x13, int 0, int 0, int 0, int 0, int 0, int 0, int 0, .sc (.slice none 0 0)]]⟩), (4, ⟨28, 9, true, true, w1_1, y1_4.map GOp.av⟩)]) (.tmp rfl .nil) (HK.le ⟨rfl, rfl, rfl, trivial⟩) ?_)
  exact ⟨(), (), rfl, rfl, rfl⟩
  rintro y _ ⟨_, _, rfl, hc, rfl⟩
  subst hc
  refine tr tbk 1 (.mk ?_)
  obtain ⟨p235, h2⟩ := asrt_e h2
  obtain ⟨x236, e236, h2⟩ := bnd_e h2
  obtain ⟨x237, e237, h2⟩ := bnd_e h2
  refine rse rfl rfl rfl (yl_call rfl rfl (.cons rfl .nil) cal31 (PC.mono (numP_c (s := x14) (id := 1) (ver := w0_1) rfl p235) (R' := fun y H' => y = int x236 ∧ H' = upd _ 1 (some (rdr 87 w0_1 x237))) (fun y H' h => ⟨h.1.trans (congrArg int e236), h.2.trans (rdr_cong e237)⟩))) ?_; rintro _ _ ⟨rfl, rfl⟩
  refine tr tbk 1 (.mk ?_)
  refine sS ⟨28, 9, true, true, v15, [[int x13, int x236, int 0, int 0, int 0, int 0, int 0, int 0, .sc (.slice none 0 0)]]⟩ sh3 ?_
  refine tr tbk 15 (.mk ?_)
  refine sY (yv_to (y := boo false) (yv_eql rfl rfl rfl) (congrArg boo (by decide))) ?_
  refine tr tbk 4 (.mk ?_)
  obtain ⟨j238, h3, h2⟩ := bind_e h2
  refine rse (Out := fun y H' => (∃ (a : Unit) (k : Unit), a = j238 ∧ y = .pt 2 v15 0 2 ∧ H' = hk [(1, ⟨87, 2, true, true, w0_1, [[str x237.1, boo x237.2]]⟩), (2, ⟨28, 9, true, true, v15, [[int x13, int x236, int 0, int 0, int 0, int 0, int 0, int 0, .sc (.slice none 0 0)]]⟩), (4, ⟨28, 9, true, true, w1_1, y1_4.map GOp.av⟩)])) rfl rfl rfl (yl_call rfl rfl (.cons rfl (.cons rfl .nil)) cal23 ?_) ?_
  refine pcw (c := _) Try.func23 rfl rfl ?_; intro Q hret hnorm
  refine tc tbk 12 (.mk ?_)
  refine sY (yv_to (y := boo false) (yv_eql rfl rfl rfl) (congrArg boo (by decide))) ?_
  refine tr tbk 5 (.mk ?_)
  refine sY (yv_to (y := boo true) (yv_eql rfl rfl rfl) (congrArg boo (by decide))) ?_
  refine tr tbk 10 (.mk ?_)
  obtain rfl := nxt_e h3
  refine w_ret (hret _ _ (hk [(1, ⟨87, 2, true, true, w0_1, [[str x237.1, boo x237.2]]⟩), (2, ⟨28, 9, true, true, v15, [[int x13, int x236, int 0, int 0, int 0, int 0, int 0, int 0, .sc (.slice none 0 0)]]⟩), (4, ⟨28, 9, true, true, w1_1, y1_4.map GOp.av⟩)]) (.tmp rfl .nil) (HK.le ⟨rfl, rfl, rfl, trivial⟩) ?_)
  exact ⟨(), (), rfl, rfl, rfl⟩
  rintro y _ ⟨_, _, rfl, hc, rfl⟩
  subst hc
  refine tr tbk 1 (.mk ?_)
  obtain ⟨p239, h2⟩ := asrt_e h2
  obtain ⟨x240, e240, h2⟩ := bnd_e h2
  obtain ⟨x241, e241, h2⟩ := bnd_e h2
  refine rse rfl rfl rfl (yl_call rfl rfl (.cons rfl .nil) cal31 (PC.mono (numP_c (s := x237) (id := 1) (ver := w0_1) rfl p239) (R' := fun y H' => y = int x240 ∧ H' = upd _ 1 (some (rdr 87 w0_1 x241))) (fun y H' h => ⟨h.1.trans (congrArg int e240), h.2.trans (rdr_cong e241)⟩))) ?_; rintro _ _ ⟨rfl, rfl⟩
  refine tr tbk 1 (.mk ?_)
  refine sS ⟨28, 9, true, true, v15, [[int x13, int x236, int x240, int 0, int 0, int 0, int 0, int 0, .sc (.slice none 0 0)]]⟩ sh3 ?_
  refine tr tbk 15 (.mk ?_)
  refine sY (yv_to (y := boo false) (yv_eql rfl rfl rfl) (congrArg boo (by decide))) ?_
  refine tr tbk 4 (.mk ?_)
  obtain ⟨j242, h3, h2⟩ := bind_e h2
  refine rse (Out := fun y H' => (∃ (a : Unit) (k : Unit), a = j242 ∧ y = .pt 2 v15 0 3 ∧ H' = hk [(1, ⟨87, 2, true, true, w0_1, [[str x241.1, boo x241.2]]⟩), (2, ⟨28, 9, true, true, v15, [[int x13, int x236, int x240, int 0, int 0, int 0, int 0, int 0, .sc (.slice none 0 0)]]⟩), (4, ⟨28, 9, true, true, w1_1, y1_4.map GOp.av⟩)])) rfl rfl rfl (yl_call rfl rfl (.cons rfl (.cons rfl .nil)) cal23 ?_) ?_
  refine pcw (c := _) Try.func23 rfl rfl ?_; intro Q hret hnorm
  refine tc tbk 12 (.mk ?_)
  refine sY (yv_to (y := boo false) (yv_eql rfl rfl rfl) (congrArg boo (by decide))) ?_
  refine tr tbk 5 (.mk ?_)
  refine sY (yv_to (y := boo false) (yv_eql rfl rfl rfl) (congrArg boo (by decide))) ?_
  refine tr tbk 5 (.mk ?_)
  refine sY (yv_to (y := boo true) (yv_eql rfl rfl rfl) (congrArg boo (by decide))) ?_
  refine tr tbk 10 (.mk ?_)
  obtain rfl := nxt_e h3
  refine w_ret (hret _ _ (hk [(1, ⟨87, 2, true, true, w0_1, [[str x241.1, boo x241.2]]⟩), (2, ⟨28, 9, true, true, v15, [[int x13, int x236, int x240, int 0, int 0, int 0, int 0, int 0, .sc (.slice none 0 0)]]⟩), (4, ⟨28, 9, true, true, w1_1, y1_4.map GOp.av⟩)]) (.tmp rfl .nil) (HK.le ⟨rfl, rfl, rfl, trivial⟩) ?_)
  exact ⟨(), (), rfl, rfl, rfl⟩
  rintro y _ ⟨_, _, rfl, hc, rfl⟩
  subst hc
  refine tr tbk 1 (.mk ?_)
  obtain ⟨p243, h2⟩ := asrt_e h2
  obtain ⟨x244, e244, h2⟩ := bnd_e h2
  obtain ⟨x245, e245, h2⟩ := bnd_e h2
  refine rse rfl rfl rfl (yl_call rfl rfl (.cons rfl .nil) cal31 (PC.mono (numP_c (s := x241) (id := 1) (ver := w0_1) rfl p243) (R' := fun y H' => y = int x244 ∧ H' = upd _ 1 (some (rdr 87 w0_1 x245))) (fun y H' h => ⟨h.1.trans (congrArg int e244), h.2.trans (rdr_cong e245)⟩))) ?_; rintro _ _ ⟨rfl, rfl⟩
  refine tr tbk 1 (.mk ?_)
  refine sS ⟨28, 9, true, true, v15, [[int x13, int x236, int x240, int x244, int 0, int 0, int 0, int 0, .sc (.slice none 0 0)]]⟩ sh3 ?_
  refine tr tbk 15 (.mk ?_)
  refine sY (yv_to (y := boo false) (yv_eql rfl rfl rfl) (congrArg boo (by decide))) ?_
  refine tr tbk 4 (.mk ?_)
  obtain ⟨j246, h3, h2⟩ := bind_e h2
  refine rse (Out := fun y H' => (∃ (a : Unit) (k : Unit), a = j246 ∧ y = .pt 2 v15 0 5 ∧ H' = hk [(1, ⟨87, 2, true, true, w0_1, [[str x245.1, boo x245.2]]⟩), (2, ⟨28, 9, true, true, v15, [[int x13, int x236, int x240, int x244, int 0, int 0, int 0, int 0, .sc (.slice none 0 0)]]⟩), (4, ⟨28, 9, true, true, w1_1, y1_4.map GOp.av⟩)])) rfl rfl rfl (yl_call rfl rfl (.cons rfl (.cons rfl .nil)) cal23 ?_) ?_
  refine pcw (c := _) Try.func23 rfl rfl ?_; intro Q hret hnorm
  refine tc tbk 12 (.mk ?_)
  refine sY (yv_to (y := boo false) (yv_eql rfl rfl rfl) (congrArg boo (by decide))) ?_
  refine tr tbk 5 (.mk ?_)
  refine sY (yv_to (y := boo false) (yv_eql rfl rfl rfl) (congrArg boo (by decide))) ?_
  refine tr tbk 5 (.mk ?_)
  refine sY (yv_to (y := boo false) (yv_eql rfl rfl rfl) (congrArg boo (by decide))) ?_
  refine tr tbk 5 (.mk ?_)
  refine sY (yv_to (y := boo false) (yv_eql rfl rfl rfl) (congrArg boo (by decide))) ?_
  refine tr tbk 5 (.mk ?_)
  refine sY (yv_to (y := boo true) (yv_eql rfl rfl rfl) (congrArg boo (by decide))) ?_
  refine tr tbk 10 (.mk ?_)
  obtain rfl := nxt_e h3
  refine w_ret (hret _ _ (hk [(1, ⟨87, 2, true, true, w0_1, [[str x245.1, boo x245.2]]⟩), (2, ⟨28, 9, true, true, v15, [[int x13, int x236, int x240, int x244, int 0, int 0, int 0, int 0, .sc (.slice none 0 0)]]⟩), (4, ⟨28, 9, true, true, w1_1, y1_4.map GOp.av⟩)]) (.tmp rfl .nil) (HK.le ⟨rfl, rfl, rfl, trivial⟩) ?_)
  exact ⟨(), (), rfl, rfl, rfl⟩
  rintro y _ ⟨_, _, rfl, hc, rfl⟩
  subst hc
  refine tr tbk 1 (.mk ?_)
  obtain ⟨p247, h2⟩ := asrt_e h2
  obtain ⟨x248, e248, h2⟩ := bnd_e h2
  obtain ⟨x249, e249, h2⟩ := bnd_e h2
  refine rse rfl rfl rfl (yl_call rfl rfl (.cons rfl .nil) cal31 (PC.mono (numP_c (s := x245) (id := 1) (ver := w0_1) rfl p247) (R' := fun y H' => y = int x248 ∧ H' = upd _ 1 (some (rdr 87 w0_1 x249))) (fun y H' h => ⟨h.1.trans (congrArg int e248), h.2.trans (rdr_cong e249)⟩))) ?_; rintro _ _ ⟨rfl, rfl⟩
  refine tr tbk 1 (.mk ?_)
  refine sS ⟨28, 9, true, true, v15, [[int x13, int x236, int x240, int x244, int 0, int x248, int 0, int 0, .sc (.slice none 0 0)]]⟩ sh3 ?_
  refine tr tbk 8 (.mk ?_)
  refine jn h2 [2, 3, 4, 5, 6, 15, 16] [1, 2, 4] (fun (a : Bool) (k : Unit) => [(45, boo a)]) (fun a k => []) ⟨fun j250 h3 => ?_, ?_⟩
  refine tc tbk 2 (.mk ?_)
  refine sY (yv_callR rfl rfl (.cons rfl .nil) cal32 (badP_c (s := x249) (id := 1) (ver := w0_1) rfl) (.sc _)) ?_
  refine tr tbk 1 (.mk ?_)
  obtain ⟨x251, e251, h3⟩ := bnd_e h3
  refine rsas 40 (boo x251) rfl (congrArg boo e251) ?_
  refine rsas 41 (boo x251) rfl (congrArg boo e251) ?_
  cases x251
  replace h3 := cf h3
  refine tr tbk 1 (.mk ?_)
  obtain ⟨x252, e252, h3⟩ := bind_e h3
  refine sY (yv_callP rfl rfl (.cons rfl .nil) cal8 (.cons (CvL.agg (.cons (.refl _) (.cons (.refl _) (.cons (.refl _) (.cons (.refl _) (.cons (.refl _) (.cons (.refl _) (.cons (.refl _) (.cons (.refl _) (.cons (.nil _) .nil)))))))))) .nil) (d_ops_Check_c e252)) ?_
  refine nb tbk h3 fun x253 h3 => ?_
  refine tr tbk 2 (.mk ?_)
  exact lf h3 () leA
  replace h3 := ct h3
  refine tr tbk 5 (.mk ?_)
  exact lf h3 () leA
  rintro y3_1 _ h2
  replace h2 := asrt_e h2
  obtain ⟨rfl, h2⟩ := h2
  refine tc tbk 5 (.mk ?_)
  refine sY (yv_buildSlice (ps := [(0, _)]) (rows := [[int x13, int x236, int x240, int x244, int 0, int x248, int 0, int 0, .sc (.slice none 0 0)]]) rfl Try.underlying22 bz28 (.cons rfl .nil) (by kernel_rfl) rfl rfl rfl) ?_
  obtain ⟨x254, e254, h2⟩ := bnd_e h2
  obtain ⟨p255, h2⟩ := asrt_e h2
  refine rse rfl rfl rfl (yl_appT (g := GOp.av) (l := y1_4) (m := [(⟨x13, x236, x240, x244, 0, x248, 0, 0, []⟩ : GOp)]) .any rfl Try.underlying22 bz28 by28 rfl rfl rfl rfl rfl rfl rfl rfl rfl rfl (Eq.symm rfl) (CvLL.list (.cons (.cons (.refl _) (.cons (.refl _) (.cons (.refl _) (.cons (.refl _) (.cons (.refl _) (.cons (.refl _) (.cons (.refl _) (.cons (.refl _) (.cons (.nil _) .nil))))))))) .nil)) (fun _ => rfl) e254 p255) ?_; rintro _ _ ⟨v256, -, rfl, rfl⟩
  refine tr tbk 3 (.mk ?_)
  exact lf h2 v256 leA
  replace h2 := ct h2
  refine w_rangeD [0, 0, 2, 7, 15] (fun i => bif Nat.beq i 1 then ([2]) else bif Nat.beq i 2 then ([2]) else []) (fun i => [2]) 4 [0, 1, 2, 3] mixed (by kernel_rfl) rfl rfl rfl rfl rfl rfl rfl rfl rfl rfl rfl rfl rfl Try.underlying9 ?_
  refine eP (fun H hH => yv_callP rfl rfl .nil cal20 (CvL.refl _) forms20_c) ?_
  refine eF fo28_0 ?_
  refine eL sh3 ?_
  refine de_as 23 (int 5) rfl (congrArg int (of_decide_eq_true e21)) ?_
  refine de_pure rfl rfl rfl rfl (fun H hH => yv_indexA rfl Try.underlying46 sh45 rfl rfl (by decide) rfl) ?_
  refine ⟨_, rfl, rfl, fun b257 => ?_⟩
  refine tc tbk 13 (.mk ?_)
  refine sY (yv_to (y := boo false) (yv_eql rfl rfl rfl) (congrArg boo (by decide))) ?_
  refine tr tbk 4 (.mk ?_)
  obtain ⟨j258, h3, h2⟩ := bind_e h2
  refine rse (Out := fun y H' => (∃ (a : Unit) (k : Unit), a = j258 ∧ y = .pt 2 v15 0 5 ∧ H' = hk [(1, ⟨87, 2, true, true, w0_1, [[str x14.1, boo x14.2]]⟩), (2, ⟨28, 9, true, true, v15, [[int x13, int 0, int 0, int 0, int 0, int 0, int 0, int 0, .sc (.slice none 0 0)]]⟩), (4, ⟨28, 9, true, true, w1_1, y1_4.map GOp.av⟩)])) rfl rfl rfl (yl_call rfl rfl (.cons rfl (.cons rfl .nil)) cal23 ?_) ?_
  refine pcw (c := _) Try.func23 rfl rfl ?_; intro Q hret hnorm
  refine tc tbk 12 (.mk ?_)
  refine sY (yv_to (y := boo false) (yv_eql rfl rfl rfl) (congrArg boo (by decide))) ?_
  refine tr tbk 5 (.mk ?_)
  refine sY (yv_to (y := boo false) (yv_eql rfl rfl rfl) (congrArg boo (by decide))) ?_
  refine tr tbk 5 (.mk ?_)
  refine sY (yv_to (y := boo false) (yv_eql rfl rfl rfl) (congrArg boo (by decide))) ?_
  refine tr tbk 5 (.mk ?_)
  refine sY (yv_to (y := boo false) (yv_eql rfl rfl rfl) (congrArg boo (by decide))) ?_
  refine tr tbk 5 (.mk ?_)
  refine sY (yv_to (y := boo true) (yv_eql rfl rfl rfl) (congrArg boo (by decide))) ?_
  refine tr tbk 10 (.mk ?_)
  obtain rfl := nxt_e h3
  refine w_ret (hret _ _ (hk [(1, ⟨87, 2, true, true, w0_1, [[str x14.1, boo x14.2]]⟩), (2, ⟨28, 9, true, true, v15, [[int x13, int 0, int 0, int 0, int 0, int 0, int 0, int 0, .sc (.slice none 0 0)]]⟩), (4, ⟨28, 9, true, true, w1_1, y1_4.map GOp.av⟩)]) (.tmp rfl .nil) (HK.le ⟨rfl, rfl, rfl, trivial⟩) ?_)
  exact ⟨(), (), rfl, rfl, rfl⟩
  rintro y _ ⟨_, _, rfl, hc, rfl⟩
  subst hc
  refine tr tbk 1 (.mk ?_)
  obtain ⟨p259, h2⟩ := asrt_e h2
  obtain ⟨x260, e260, h2⟩ := bnd_e h2
  obtain ⟨x261, e261, h2⟩ := bnd_e h2
  refine rse rfl rfl rfl (yl_call rfl rfl (.cons rfl .nil) cal31 (PC.mono (numP_c (s := x14) (id := 1) (ver := w0_1) rfl p259) (R' := fun y H' => y = int x260 ∧ H' = upd _ 1 (some (rdr 87 w0_1 x261))) (fun y H' h => ⟨h.1.trans (congrArg int e260), h.2.trans (rdr_cong e261)⟩))) ?_; rintro _ _ ⟨rfl, rfl⟩
  refine tr tbk 1 (.mk ?_)
  refine sS ⟨28, 9, true, true, v15, [[int x13, int 0, int 0, int 0, int 0, int x260, int 0, int 0, .sc (.slice none 0 0)]]⟩ sh3 ?_
  refine tr tbk 15 (.mk ?_)
  refine sY (yv_to (y := boo false) (yv_eql rfl rfl rfl) (congrArg boo (by decide))) ?_
  refine tr tbk 4 (.mk ?_)
  obtain ⟨j262, h3, h2⟩ := bind_e h2
  refine rse (Out := fun y H' => (∃ (a : Unit) (k : Unit), a = j262 ∧ y = .pt 2 v15 0 6 ∧ H' = hk [(1, ⟨87, 2, true, true, w0_1, [[str x261.1, boo x261.2]]⟩), (2, ⟨28, 9, true, true, v15, [[int x13, int 0, int 0, int 0, int 0, int x260, int 0, int 0, .sc (.slice none 0 0)]]⟩), (4, ⟨28, 9, true, true, w1_1, y1_4.map GOp.av⟩)])) rfl rfl rfl (yl_call rfl rfl (.cons rfl (.cons rfl .nil)) cal23 ?_) ?_
  refine pcw (c := _) Try.func23 rfl rfl ?_; intro Q hret hnorm
  refine tc tbk 12 (.mk ?_)
  refine sY (yv_to (y := boo false) (yv_eql rfl rfl rfl) (congrArg boo (by decide))) ?_
  refine tr tbk 5 (.mk ?_)
  refine sY (yv_to (y := boo false) (yv_eql rfl rfl rfl) (congrArg boo (by decide))) ?_
  refine tr tbk 5 (.mk ?_)
  refine sY (yv_to (y := boo false) (yv_eql rfl rfl rfl) (congrArg boo (by decide))) ?_
  refine tr tbk 5 (.mk ?_)
  refine sY (yv_to (y := boo false) (yv_eql rfl rfl rfl) (congrArg boo (by decide))) ?_
  refine tr tbk 5 (.mk ?_)
  refine sY (yv_to (y := boo false) (yv_eql rfl rfl rfl) (congrArg boo (by decide))) ?_
  refine tr tbk 5 (.mk ?_)
  refine sY (yv_to (y := boo true) (yv_eql rfl rfl rfl) (congrArg boo (by decide))) ?_
  refine tr tbk 10 (.mk ?_)
  obtain rfl := nxt_e h3
  refine w_ret (hret _ _ (hk [(1, ⟨87, 2, true, true, w0_1, [[str x261.1, boo x261.2]]⟩), (2, ⟨28, 9, true, true, v15, [[int x13, int 0, int 0, int 0, int 0, int x260, int 0, int 0, .sc (.slice none 0 0)]]⟩), (4, ⟨28, 9, true, true, w1_1, y1_4.map GOp.av⟩)]) (.tmp rfl .nil) (HK.le ⟨rfl, rfl, rfl, trivial⟩) ?_)
  exact ⟨(), (), rfl, rfl, rfl⟩
  rintro y _ ⟨_, _, rfl, hc, rfl⟩
  subst hc
  refine tr tbk 1 (.mk ?_)
  obtain ⟨p263, h2⟩ := asrt_e h2
  obtain ⟨x264, e264, h2⟩ := bnd_e h2
  obtain ⟨x265, e265, h2⟩ := bnd_e h2
  refine rse rfl rfl rfl (yl_call rfl rfl (.cons rfl .nil) cal31 (PC.mono (numP_c (s := x261) (id := 1) (ver := w0_1) rfl p263) (R' := fun y H' => y = int x264 ∧ H' = upd _ 1 (some (rdr 87 w0_1 x265))) (fun y H' h => ⟨h.1.trans (congrArg int e264), h.2.trans (rdr_cong e265)⟩))) ?_; rintro _ _ ⟨rfl, rfl⟩
  refine tr tbk 1 (.mk ?_)
  refine sS ⟨28, 9, true, true, v15, [[int x13, int 0, int 0, int 0, int 0, int x260, int x264, int 0, .sc (.slice none 0 0)]]⟩ sh3 ?_
  refine tr tbk 15 (.mk ?_)
  refine sY (yv_to (y := boo false) (yv_eql rfl rfl rfl) (congrArg boo (by decide))) ?_
  refine tr tbk 4 (.mk ?_)
  obtain ⟨j266, h3, h2⟩ := bind_e h2
  refine rse (Out := fun y H' => (∃ (a : Unit) (k : Unit), a = j266 ∧ y = .pt 2 v15 0 7 ∧ H' = hk [(1, ⟨87, 2, true, true, w0_1, [[str x265.1, boo x265.2]]⟩), (2, ⟨28, 9, true, true, v15, [[int x13, int 0, int 0, int 0, int 0, int x260, int x264, int 0, .sc (.slice none 0 0)]]⟩), (4, ⟨28, 9, true, true, w1_1, y1_4.map GOp.av⟩)])) rfl rfl rfl (yl_call rfl rfl (.cons rfl (.cons rfl .nil)) cal23 ?_) ?_
  refine pcw (c := _) Try.func23 rfl rfl ?_; intro Q hret hnorm
  refine tc tbk 12 (.mk ?_)
  refine sY (yv_to (y := boo false) (yv_eql rfl rfl rfl) (congrArg boo (by decide))) ?_
  refine tr tbk 5 (.mk ?_)
  refine sY (yv_to (y := boo false) (yv_eql rfl rfl rfl) (congrArg boo (by decide))) ?_
  refine tr tbk 5 (.mk ?_)
  refine sY (yv_to (y := boo false) (yv_eql rfl rfl rfl) (congrArg boo (by decide))) ?_
  refine tr tbk 5 (.mk ?_)
  refine sY (yv_to (y := boo false) (yv_eql rfl rfl rfl) (congrArg boo (by decide))) ?_
  refine tr tbk 5 (.mk ?_)
  refine sY (yv_to (y := boo false) (yv_eql rfl rfl rfl) (congrArg boo (by decide))) ?_
  refine tr tbk 5 (.mk ?_)
  refine sY (yv_to (y := boo false) (yv_eql rfl rfl rfl) (congrArg boo (by decide))) ?_
  refine tr tbk 12 (.mk ?_)
  obtain rfl := nxt_e h3
  refine w_ret (hret _ _ (hk [(1, ⟨87, 2, true, true, w0_1, [[str x265.1, boo x265.2]]⟩), (2, ⟨28, 9, true, true, v15, [[int x13, int 0, int 0, int 0, int 0, int x260, int x264, int 0, .sc (.slice none 0 0)]]⟩), (4, ⟨28, 9, true, true, w1_1, y1_4.map GOp.av⟩)]) (.tmp rfl .nil) (HK.le ⟨rfl, rfl, rfl, trivial⟩) ?_)
  exact ⟨(), (), rfl, rfl, rfl⟩
  rintro y _ ⟨_, _, rfl, hc, rfl⟩
  subst hc
  refine tr tbk 1 (.mk ?_)
  obtain ⟨p267, h2⟩ := asrt_e h2
  obtain ⟨x268, e268, h2⟩ := bnd_e h2
  obtain ⟨x269, e269, h2⟩ := bnd_e h2
  refine rse rfl rfl rfl (yl_call rfl rfl (.cons rfl .nil) cal31 (PC.mono (numP_c (s := x265) (id := 1) (ver := w0_1) rfl p267) (R' := fun y H' => y = int x268 ∧ H' = upd _ 1 (some (rdr 87 w0_1 x269))) (fun y H' h => ⟨h.1.trans (congrArg int e268), h.2.trans (rdr_cong e269)⟩))) ?_; rintro _ _ ⟨rfl, rfl⟩
  refine tr tbk 1 (.mk ?_)
  refine sS ⟨28, 9, true, true, v15, [[int x13, int 0, int 0, int 0, int 0, int x260, int x264, int x268, .sc (.slice none 0 0)]]⟩ sh3 ?_
  refine tr tbk 8 (.mk ?_)
  refine jn h2 [2, 3, 4, 5, 6, 15, 16] [1, 2, 4] (fun (a : Bool) (k : Unit) => [(45, boo a)]) (fun a k => []) ⟨fun j270 h3 => ?_, ?_⟩
  refine tc tbk 2 (.mk ?_)
  refine sY (yv_callR rfl rfl (.cons rfl .nil) cal32 (badP_c (s := x269) (id := 1) (ver := w0_1) rfl) (.sc _)) ?_
  refine tr tbk 1 (.mk ?_)
  obtain ⟨x271, e271, h3⟩ := bnd_e h3
  refine rsas 40 (boo x271) rfl (congrArg boo e271) ?_
  refine rsas 41 (boo x271) rfl (congrArg boo e271) ?_
  cases x271
  replace h3 := cf h3
  refine tr tbk 1 (.mk ?_)
  obtain ⟨x272, e272, h3⟩ := bind_e h3
  refine sY (yv_callP rfl rfl (.cons rfl .nil) cal8 (.cons (CvL.agg (.cons (.refl _) (.cons (.refl _) (.cons (.refl _) (.cons (.refl _) (.cons (.refl _) (.cons (.refl _) (.cons (.refl _) (.cons (.refl _) (.cons (.nil _) .nil)))))))))) .nil) (d_ops_Check_c e272)) ?_
  refine nb tbk h3 fun x273 h3 => ?_
  refine tr tbk 2 (.mk ?_)
  exact lf h3 () leA
  replace h3 := ct h3
  refine tr tbk 5 (.mk ?_)
  exact lf h3 () leA
  rintro y3_1 _ h2
  replace h2 := asrt_e h2
  obtain ⟨rfl, h2⟩ := h2
  refine tc tbk 5 (.mk ?_)
  refine sY (yv_buildSlice (ps := [(0, _)]) (rows := [[int x13, int 0, int 0, int 0, int 0, int x260, int x264, int x268, .sc (.slice none 0 0)]]) rfl Try.underlying22 bz28 (.cons rfl .nil) (by kernel_rfl) rfl rfl rfl) ?_
  obtain ⟨x274, e274, h2⟩ := bnd_e h2
  obtain ⟨p275, h2⟩ := asrt_e h2
  refine rse rfl rfl rfl (yl_appT (g := GOp.av) (l := y1_4) (m := [(⟨x13, 0, 0, 0, 0, x260, x264, x268, []⟩ : GOp)]) .any rfl Try.underlying22 bz28 by28 rfl rfl rfl rfl rfl rfl rfl rfl rfl rfl (Eq.symm rfl) (CvLL.list (.cons (.cons (.refl _) (.cons (.refl _) (.cons (.refl _) (.cons (.refl _) (.cons (.refl _) (.cons (.refl _) (.cons (.refl _) (.cons (.refl _) (.cons (.nil _) .nil))))))))) .nil)) (fun _ => rfl) e274 p275) ?_; rintro _ _ ⟨v276, -, rfl, rfl⟩
  refine tr tbk 3 (.mk ?_)
  exact lf h2 v276 leA
  replace h2 := ct h2
  refine w_rangeD [0, 0, 2, 7, 15] (fun i => bif Nat.beq i 1 then ([2]) else bif Nat.beq i 2 then ([2]) else []) (fun i => [2]) 4 [0, 1, 2, 3] mixed (by kernel_rfl) rfl rfl rfl rfl rfl rfl rfl rfl rfl rfl rfl rfl rfl Try.underlying9 ?_
  refine eP (fun H hH => yv_callP rfl rfl .nil cal20 (CvL.refl _) forms20_c) ?_
  refine eF fo28_0 ?_
  refine eL sh3 ?_
  refine de_as 23 (int 4) rfl (congrArg int (of_decide_eq_true e20)) ?_
  refine de_pure rfl rfl rfl rfl (fun H hH => yv_indexA rfl Try.underlying46 sh45 rfl rfl (by decide) rfl) ?_
  refine ⟨_, rfl, rfl, fun b277 => ?_⟩
  refine tc tbk 13 (.mk ?_)
  refine sY (yv_to (y := boo false) (yv_eql rfl rfl rfl) (congrArg boo (by decide))) ?_
  refine tr tbk 4 (.mk ?_)
  obtain ⟨j278, h3, h2⟩ := bind_e h2
  refine rse (Out := fun y H' => (∃ (a : Unit) (k : Unit), a = j278 ∧ y = .pt 2 v15 0 1 ∧ H' = hk [(1, ⟨87, 2, true, true, w0_1, [[str x14.1, boo x14.2]]⟩), (2, ⟨28, 9, true, true, v15, [[int x13, int 0, int 0, int 0, int 0, int 0, int 0, int 0, .sc (.slice none 0 0)]]⟩), (4, ⟨28, 9, true, true, w1_1, y1_4.map GOp.av⟩)])) rfl rfl rfl (yl_call rfl rfl (.cons rfl (.cons rfl .nil)) cal23 ?_) ?_
  refine pcw (c := _) Try.func23 rfl rfl ?_; intro Q hret hnorm
  refine tc tbk 12 (.mk ?_)
  refine sY (yv_to (y := boo true) (yv_eql rfl rfl rfl) (congrArg boo (by decide))) ?_
  refine tr tbk 10 (.mk ?_)
  obtain rfl := nxt_e h3
  refine w_ret (hret _ _ (hk [(1, ⟨87, 2, true, true, w0_1, [[str x14.1, boo x14.2]]⟩), (2, ⟨28, 9, true, true, v15, [[int x13, int 0, int 0, int 0, int 0, int 0, int 0, int 0, .sc (.slice none 0 0)]]⟩), (4, ⟨28, 9, true, true, w1_1, y1_4.map GOp.av⟩)]) (.tmp rfl .nil) (HK.le ⟨rfl, rfl, rfl, trivial⟩) ?_)
  exact ⟨(), (), rfl, rfl, rfl⟩
  rintro y _ ⟨_, _, rfl, hc, rfl⟩
  subst hc
  refine tr tbk 1 (.mk ?_)
  obtain ⟨p279, h2⟩ := asrt_e h2
  obtain ⟨x280, e280, h2⟩ := bnd_e h2
  obtain ⟨x281, e281, h2⟩ := bnd_e h2
  refine rse rfl rfl rfl (yl_call rfl rfl (.cons rfl .nil) cal31 (PC.mono (numP_c (s := x14) (id := 1) (ver := w0_1) rfl p279) (R' := fun y H' => y = int x280 ∧ H' = upd _ 1 (some (rdr 87 w0_1 x281))) (fun y H' h => ⟨h.1.trans (congrArg int e280), h.2.trans (rdr_cong e281)⟩))) ?_; rintro _ _ ⟨rfl, rfl⟩
  refine tr tbk 1 (.mk ?_)
  refine sS ⟨28, 9, true, true, v15, [[int x13, int x280, int 0, int 0, int 0, int 0, int 0, int 0, .sc (.slice none 0 0)]]⟩ sh3 ?_
  refine tr tbk 15 (.mk ?_)
  refine sY (yv_to (y := boo false) (yv_eql rfl rfl rfl) (congrArg boo (by decide))) ?_
  refine tr tbk 4 (.mk ?_)
  obtain ⟨j282, h3, h2⟩ := bind_e h2
  refine rse (Out := fun y H' => (∃ (a : Unit) (k : Unit), a = j282 ∧ y = .pt 2 v15 0 2 ∧ H' = hk [(1, ⟨87, 2, true, true, w0_1, [[str x281.1, boo x281.2]]⟩), (2, ⟨28, 9, true, true, v15, [[int x13, int x280, int 0, int 0, int 0, int 0, int 0, int 0, .sc (.slice none 0 0)]]⟩), (4, ⟨28, 9, true, true, w1_1, y1_4.map GOp.av⟩)])) rfl rfl rfl (yl_call rfl rfl (.cons rfl (.cons rfl .nil)) cal23 ?_) ?_
  refine pcw (c := _) Try.func23 rfl rfl ?_; intro Q hret hnorm
  refine tc tbk 12 (.mk ?_)
  refine sY (yv_to (y := boo false) (yv_eql rfl rfl rfl) (congrArg boo (by decide))) ?_
  refine tr tbk 5 (.mk ?_)
  refine sY (yv_to (y := boo true) (yv_eql rfl rfl rfl) (congrArg boo (by decide))) ?_
  refine tr tbk 10 (.mk ?_)
  obtain rfl := nxt_e h3
  refine w_ret (hret _ _ (hk [(1, ⟨87, 2, true, true, w0_1, [[str x281.1, boo x281.2]]⟩), (2, ⟨28, 9, true, true, v15, [[int x13, int x280, int 0, int 0, int 0, int 0, int 0, int 0, .sc (.slice none 0 0)]]⟩), (4, ⟨28, 9, true, true, w1_1, y1_4.map GOp.av⟩)]) (.tmp rfl .nil) (HK.le ⟨rfl, rfl, rfl, trivial⟩) ?_)
  exact ⟨(), (), rfl, rfl, rfl⟩
  rintro y _ ⟨_, _, rfl, hc, rfl⟩
  subst hc
  refine tr tbk 1 (.mk ?_)
  obtain ⟨p283, h2⟩ := asrt_e h2
  obtain ⟨x284, e284, h2⟩ := bnd_e h2
  obtain ⟨x285, e285, h2⟩ := bnd_e h2
  refine rse rfl rfl rfl (yl_call rfl rfl (.cons rfl .nil) cal31 (PC.mono (numP_c (s := x281) (id := 1) (ver := w0_1) rfl p283) (R' := fun y H' => y = int x284 ∧ H' = upd _ 1 (some (rdr 87 w0_1 x285))) (fun y H' h => ⟨h.1.trans (congrArg int e284), h.2.trans (rdr_cong e285)⟩))) ?_; rintro _ _ ⟨rfl, rfl⟩
  refine tr tbk 1 (.mk ?_)
  refine sS ⟨28, 9, true, true, v15, [[int x13, int x280, int x284, int 0, int 0, int 0, int 0, int 0, .sc (.slice none 0 0)]]⟩ sh3 ?_
  refine tr tbk 15 (.mk ?_)
  refine sY (yv_to (y := boo false) (yv_eql rfl rfl rfl) (congrArg boo (by decide))) ?_
  refine tr tbk 4 (.mk ?_)
  obtain ⟨j286, h3, h2⟩ := bind_e h2
  refine rse (Out := fun y H' => (∃ (a : Unit) (k : Unit), a = j286 ∧ y = .pt 2 v15 0 3 ∧ H' = hk [(1, ⟨87, 2, true, true, w0_1, [[str x285.1, boo x285.2]]⟩), (2, ⟨28, 9, true, true, v15, [[int x13, int x280, int x284, int 0, int 0, int 0, int 0, int 0, .sc (.slice none 0 0)]]⟩), (4, ⟨28, 9, true, true, w1_1, y1_4.map GOp.av⟩)])) rfl rfl rfl (yl_call rfl rfl (.cons rfl (.cons rfl .nil)) cal23 ?_) ?_
  refine pcw (c := _) Try.func23 rfl rfl ?_; intro Q hret hnorm
  refine tc tbk 12 (.mk ?_)
  refine sY (yv_to (y := boo false) (yv_eql rfl rfl rfl) (congrArg boo (by decide))) ?_
  refine tr tbk 5 (.mk ?_)
  refine sY (yv_to (y := boo false) (yv_eql rfl rfl rfl) (congrArg boo (by decide))) ?_
  refine tr tbk 5 (.mk ?_)
  refine sY (yv_to (y := boo true) (yv_eql rfl rfl rfl) (congrArg boo (by decide))) ?_
  refine tr tbk 10 (.mk ?_)
  obtain rfl := nxt_e h3
  refine w_ret (hret _ _ (hk [(1, ⟨87, 2, true, true, w0_1, [[str x285.1, boo x285.2]]⟩), (2, ⟨28, 9, true, true, v15, [[int x13, int x280, int x284, int 0, int 0, int 0, int 0, int 0, .sc (.slice none 0 0)]]⟩), (4, ⟨28, 9, true, true, w1_1, y1_4.map GOp.av⟩)]) (.tmp rfl .nil) (HK.le ⟨rfl, rfl, rfl, trivial⟩) ?_)
  exact ⟨(), (), rfl, rfl, rfl⟩
  rintro y _ ⟨_, _, rfl, hc, rfl⟩
  subst hc
  refine tr tbk 1 (.mk ?_)
  obtain ⟨p287, h2⟩ := asrt_e h2
  obtain ⟨x288, e288, h2⟩ := bnd_e h2
  obtain ⟨x289, e289, h2⟩ := bnd_e h2
  refine rse rfl rfl rfl (yl_call rfl rfl (.cons rfl .nil) cal31 (PC.mono (numP_c (s := x285) (id := 1) (ver := w0_1) rfl p287) (R' := fun y H' => y = int x288 ∧ H' = upd _ 1 (some (rdr 87 w0_1 x289))) (fun y H' h => ⟨h.1.trans (congrArg int e288), h.2.trans (rdr_cong e289)⟩))) ?_; rintro _ _ ⟨rfl, rfl⟩
  refine tr tbk 1 (.mk ?_)
  refine sS ⟨28, 9, true, true, v15, [[int x13, int x280, int x284, int x288, int 0, int 0, int 0, int 0, .sc (.slice none 0 0)]]⟩ sh3 ?_
  refine tr tbk 15 (.mk ?_)
  refine sY (yv_to (y := boo false) (yv_eql rfl rfl rfl) (congrArg boo (by decide))) ?_
  refine tr tbk 4 (.mk ?_)
  obtain ⟨j290, h3, h2⟩ := bind_e h2
  refine rse (Out := fun y H' => (∃ (a : Unit) (k : Unit), a = j290 ∧ y = .pt 2 v15 0 5 ∧ H' = hk [(1, ⟨87, 2, true, true, w0_1, [[str x289.1, boo x289.2]]⟩), (2, ⟨28, 9, true, true, v15, [[int x13, int x280, int x284, int x288, int 0, int 0, int 0, int 0, .sc (.slice none 0 0)]]⟩), (4, ⟨28, 9, true, true, w1_1, y1_4.map GOp.av⟩)])) rfl rfl rfl (yl_call rfl rfl (.cons rfl (.cons rfl .nil)) cal23 ?_) ?_
  refine pcw (c := _) Try.func23 rfl rfl ?_; intro Q hret hnorm
  refine tc tbk 12 (.mk ?_)
  refine sY (yv_to (y := boo false) (yv_eql rfl rfl rfl) (congrArg boo (by decide))) ?_
  refine tr tbk 5 (.mk ?_)
  refine sY (yv_to (y := boo false) (yv_eql rfl rfl rfl) (congrArg boo (by decide))) ?_
  refine tr tbk 5 (.mk ?_)
  refine sY (yv_to (y := boo false) (yv_eql rfl rfl rfl) (congrArg boo (by decide))) ?_
  refine tr tbk 5 (.mk ?_)
  refine sY (yv_to (y := boo false) (yv_eql rfl rfl rfl) (congrArg boo (by decide))) ?_
  refine tr tbk 5 (.mk ?_)
  refine sY (yv_to (y := boo true) (yv_eql rfl rfl rfl) (congrArg boo (by decide))) ?_
  refine tr tbk 10 (.mk ?_)
  obtain rfl := nxt_e h3
  refine w_ret (hret _ _ (hk [(1, ⟨87, 2, true, true, w0_1, [[str x289.1, boo x289.2]]⟩), (2, ⟨28, 9, true, true, v15, [[int x13, int x280, int x284, int x288, int 0, int 0, int 0, int 0, .sc (.slice none 0 0)]]⟩), (4, ⟨28, 9, true, true, w1_1, y1_4.map GOp.av⟩)]) (.tmp rfl .nil) (HK.le ⟨rfl, rfl, rfl, trivial⟩) ?_)
  exact ⟨(), (), rfl, rfl, rfl⟩
  rintro y _ ⟨_, _, rfl, hc, rfl⟩
  subst hc
  refine tr tbk 1 (.mk ?_)
  obtain ⟨p291, h2⟩ := asrt_e h2
  obtain ⟨x292, e292, h2⟩ := bnd_e h2
  obtain ⟨x293, e293, h2⟩ := bnd_e h2
  refine rse rfl rfl rfl (yl_call rfl rfl (.cons rfl .nil) cal31 (PC.mono (numP_c (s := x289) (id := 1) (ver := w0_1) rfl p291) (R' := fun y H' => y = int x292 ∧ H' = upd _ 1 (some (rdr 87 w0_1 x293))) (fun y H' h => ⟨h.1.trans (congrArg int e292), h.2.trans (rdr_cong e293)⟩))) ?_; rintro _ _ ⟨rfl, rfl⟩
  refine tr tbk 1 (.mk ?_)
  refine sS ⟨28, 9, true, true, v15, [[int x13, int x280, int x284, int x288, int 0, int x292, int 0, int 0, .sc (.slice none 0 0)]]⟩ sh3 ?_
  refine tr tbk 15 (.mk ?_)
  refine sY (yv_to (y := boo false) (yv_eql rfl rfl rfl) (congrArg boo (by decide))) ?_
  refine tr tbk 4 (.mk ?_)
  obtain ⟨j294, h3, h2⟩ := bind_e h2
  refine rse (Out := fun y H' => (∃ (a : Unit) (k : Unit), a = j294 ∧ y = .pt 2 v15 0 6 ∧ H' = hk [(1, ⟨87, 2, true, true, w0_1, [[str x293.1, boo x293.2]]⟩), (2, ⟨28, 9, true, true, v15, [[int x13, int x280, int x284, int x288, int 0, int x292, int 0, int 0, .sc (.slice none 0 0)]]⟩), (4, ⟨28, 9, true, true, w1_1, y1_4.map GOp.av⟩)])) rfl rfl rfl (yl_call rfl rfl (.cons rfl (.cons rfl .nil)) cal23 ?_) ?_
  refine pcw (c := _) Try.func23 rfl rfl ?_; intro Q hret hnorm
  refine tc tbk 12 (.mk ?_)
  refine sY (yv_to (y := boo false) (yv_eql rfl rfl rfl) (congrArg boo (by decide))) ?_
  refine tr tbk 5 (.mk ?_)
  refine sY (yv_to (y := boo false) (yv_eql rfl rfl rfl) (congrArg boo (by decide))) ?_
  refine tr tbk 5 (.mk ?_)
  refine sY (yv_to (y := boo false) (yv_eql rfl rfl rfl) (congrArg boo (by decide))) ?_
  refine tr tbk 5 (.mk ?_)
  refine sY (yv_to (y := boo false) (yv_eql rfl rfl rfl) (congrArg boo (by decide))) ?_
  refine tr tbk 5 (.mk ?_)
  refine sY (yv_to (y := boo false) (yv_eql rfl rfl rfl) (congrArg boo (by decide))) ?_
  refine tr tbk 5 (.mk ?_)
  refine sY (yv_to (y := boo true) (yv_eql rfl rfl rfl) (congrArg boo (by decide))) ?_
  refine tr tbk 10 (.mk ?_)
  obtain rfl := nxt_e h3
  refine w_ret (hret _ _ (hk [(1, ⟨87, 2, true, true, w0_1, [[str x293.1, boo x293.2]]⟩), (2, ⟨28, 9, true, true, v15, [[int x13, int x280, int x284, int x288, int 0, int x292, int 0, int 0, .sc (.slice none 0 0)]]⟩), (4, ⟨28, 9, true, true, w1_1, y1_4.map GOp.av⟩)]) (.tmp rfl .nil) (HK.le ⟨rfl, rfl, rfl, trivial⟩) ?_)
  exact ⟨(), (), rfl, rfl, rfl⟩
  rintro y _ ⟨_, _, rfl, hc, rfl⟩
  subst hc
  refine tr tbk 1 (.mk ?_)
  obtain ⟨p295, h2⟩ := asrt_e h2
  obtain ⟨x296, e296, h2⟩ := bnd_e h2
  obtain ⟨x297, e297, h2⟩ := bnd_e h2
  refine rse rfl rfl rfl (yl_call rfl rfl (.cons rfl .nil) cal31 (PC.mono (numP_c (s := x293) (id := 1) (ver := w0_1) rfl p295) (R' := fun y H' => y = int x296 ∧ H' = upd _ 1 (some (rdr 87 w0_1 x297))) (fun y H' h => ⟨h.1.trans (congrArg int e296), h.2.trans (rdr_cong e297)⟩))) ?_; rintro _ _ ⟨rfl, rfl⟩
  refine tr tbk 1 (.mk ?_)
  refine sS ⟨28, 9, true, true, v15, [[int x13, int x280, int x284, int x288, int 0, int x292, int x296, int 0, .sc (.slice none 0 0)]]⟩ sh3 ?_
  refine tr tbk 8 (.mk ?_)
  refine jn h2 [2, 3, 4, 5, 6, 15, 16] [1, 2, 4] (fun (a : Bool) (k : Unit) => [(45, boo a)]) (fun a k => []) ⟨fun j298 h3 => ?_, ?_⟩
  refine tc tbk 2 (.mk ?_)
  refine sY (yv_callR rfl rfl (.cons rfl .nil) cal32 (badP_c (s := x297) (id := 1) (ver := w0_1) rfl) (.sc _)) ?_
  refine tr tbk 1 (.mk ?_)
  obtain ⟨x299, e299, h3⟩ := bnd_e h3
  refine rsas 40 (boo x299) rfl (congrArg boo e299) ?_
  refine rsas 41 (boo x299) rfl (congrArg boo e299) ?_
  cases x299
  replace h3 := cf h3
  refine tr tbk 1 (.mk ?_)
  obtain ⟨x300, e300, h3⟩ := bind_e h3
  refine sY (yv_callP rfl rfl (.cons rfl .nil) cal8 (.cons (CvL.agg (.cons (.refl _) (.cons (.refl _) (.cons (.refl _) (.cons (.refl _) (.cons (.refl _) (.cons (.refl _) (.cons (.refl _) (.cons (.refl _) (.cons (.nil _) .nil)))))))))) .nil) (d_ops_Check_c e300)) ?_
  refine nb tbk h3 fun x301 h3 => ?_
  refine tr tbk 2 (.mk ?_)
  exact lf h3 () leA
  replace h3 := ct h3
  refine tr tbk 5 (.mk ?_)
  exact lf h3 () leA
  rintro y3_1 _ h2
  replace h2 := asrt_e h2
  obtain ⟨rfl, h2⟩ := h2
  refine tc tbk 5 (.mk ?_)
  refine sY (yv_buildSlice (ps := [(0, _)]) (rows := [[int x13, int x280, int x284, int x288, int 0, int x292, int x296, int 0, .sc (.slice none 0 0)]]) rfl Try.underlying22 bz28 (.cons rfl .nil) (by kernel_rfl) rfl rfl rfl) ?_
  obtain ⟨x302, e302, h2⟩ := bnd_e h2
  obtain ⟨p303, h2⟩ := asrt_e h2
  refine rse rfl rfl rfl (yl_appT (g := GOp.av) (l := y1_4) (m := [(⟨x13, x280, x284, x288, 0, x292, x296, 0, []⟩ : GOp)]) .any rfl Try.underlying22 bz28 by28 rfl rfl rfl rfl rfl rfl rfl rfl rfl rfl (Eq.symm rfl) (CvLL.list (.cons (.cons (.refl _) (.cons (.refl _) (.cons (.refl _) (.cons (.refl _) (.cons (.refl _) (.cons (.refl _) (.cons (.refl _) (.cons (.refl _) (.cons (.nil _) .nil))))))))) .nil)) (fun _ => rfl) e302 p303) ?_; rintro _ _ ⟨v304, -, rfl, rfl⟩
  refine tr tbk 3 (.mk ?_)
  exact lf h2 v304 leA
  replace h2 := ct h2
  refine w_rangeD [0, 0, 2, 7, 15] (fun i => bif Nat.beq i 1 then ([2]) else bif Nat.beq i 2 then ([2]) else []) (fun i => [2]) 4 [0, 1, 2, 3] mixed (by kernel_rfl) rfl rfl rfl rfl rfl rfl rfl rfl rfl rfl rfl rfl rfl Try.underlying9 ?_
  refine eP (fun H hH => yv_callP rfl rfl .nil cal20 (CvL.refl _) forms20_c) ?_
  refine eF fo28_0 ?_
  refine eL sh3 ?_
  refine de_as 23 (int 3) rfl (congrArg int (of_decide_eq_true e19)) ?_
  refine de_pure rfl rfl rfl rfl (fun H hH => yv_indexA rfl Try.underlying46 sh45 rfl rfl (by decide) rfl) ?_
  refine ⟨_, rfl, rfl, fun b305 => ?_⟩
  refine tc tbk 13 (.mk ?_)
  refine sY (yv_to (y := boo false) (yv_eql rfl rfl rfl) (congrArg boo (by decide))) ?_
  refine tr tbk 4 (.mk ?_)
  obtain ⟨j306, h3, h2⟩ := bind_e h2
  refine rse (Out := fun y H' => (∃ (a : Unit) (k : Unit), a = j306 ∧ y = .pt 2 v15 0 5 ∧ H' = hk [(1, ⟨87, 2, true, true, w0_1, [[str x14.1, boo x14.2]]⟩), (2, ⟨28, 9, true, true, v15, [[int x13, int 0, int 0, int 0, int 0, int 0, int 0, int 0, .sc (.slice none 0 0)]]⟩), (4, ⟨28, 9, true, true, w1_1, y1_4.map GOp.av⟩)])) rfl rfl rfl (yl_call rfl rfl (.cons rfl (.cons rfl .nil)) cal23 ?_) ?_
  refine pcw (c := _) Try.func23 rfl rfl ?_; intro Q hret hnorm
  refine tc tbk 12 (.mk ?_)
  refine sY (yv_to (y := boo false) (yv_eql rfl rfl rfl) (congrArg boo (by decide))) ?_
  refine tr tbk 5 (.mk ?_)
  refine sY (yv_to (y := boo false) (yv_eql rfl rfl rfl) (congrArg boo (by decide))) ?_
  refine tr tbk 5 (.mk ?_)
  refine sY (yv_to (y := boo false) (yv_eql rfl rfl rfl) (congrArg boo (by decide))) ?_
  refine tr tbk 5 (.mk ?_)
  refine sY (yv_to (y := boo false) (yv_eql rfl rfl rfl) (congrArg boo (by decide))) ?_
  refine tr tbk 5 (.mk ?_)
  refine sY (yv_to (y := boo true) (yv_eql rfl rfl rfl) (congrArg boo (by decide))) ?_
  refine tr tbk 10 (.mk ?_)
  obtain rfl := nxt_e h3
  refine w_ret (hret _ _ (hk [(1, ⟨87, 2, true, true, w0_1, [[str x14.1, boo x14.2]]⟩), (2, ⟨28, 9, true, true, v15, [[int x13, int 0, int 0, int 0, int 0, int 0, int 0, int 0, .sc (.slice none 0 0)]]⟩), (4, ⟨28, 9, true, true, w1_1, y1_4.map GOp.av⟩)]) (.tmp rfl .nil) (HK.le ⟨rfl, rfl, rfl, trivial⟩) ?_)
  exact ⟨(), (), rfl, rfl, rfl⟩
  rintro y _ ⟨_, _, rfl, hc, rfl⟩
  subst hc
  refine tr tbk 1 (.mk ?_)
  obtain ⟨p307, h2⟩ := asrt_e h2
  obtain ⟨x308, e308, h2⟩ := bnd_e h2
  obtain ⟨x309, e309, h2⟩ := bnd_e h2
  refine rse rfl rfl rfl (yl_call rfl rfl (.cons rfl .nil) cal31 (PC.mono (numP_c (s := x14) (id := 1) (ver := w0_1) rfl p307) (R' := fun y H' => y = int x308 ∧ H' = upd _ 1 (some (rdr 87 w0_1 x309))) (fun y H' h => ⟨h.1.trans (congrArg int e308), h.2.trans (rdr_cong e309)⟩))) ?_; rintro _ _ ⟨rfl, rfl⟩
  refine tr tbk 1 (.mk ?_)
  refine sS ⟨28, 9, true, true, v15, [[int x13, int 0, int 0, int 0, int 0, int x308, int 0, int 0, .sc (.slice none 0 0)]]⟩ sh3 ?_
  refine tr tbk 15 (.mk ?_)
  refine sY (yv_to (y := boo false) (yv_eql rfl rfl rfl) (congrArg boo (by decide))) ?_
  refine tr tbk 4 (.mk ?_)
  obtain ⟨j310, h3, h2⟩ := bind_e h2
  refine rse (Out := fun y H' => (∃ (a : Unit) (k : Unit), a = j310 ∧ y = .pt 2 v15 0 7 ∧ H' = hk [(1, ⟨87, 2, true, true, w0_1, [[str x309.1, boo x309.2]]⟩), (2, ⟨28, 9, true, true, v15, [[int x13, int 0, int 0, int 0, int 0, int x308, int 0, int 0, .sc (.slice none 0 0)]]⟩), (4, ⟨28, 9, true, true, w1_1, y1_4.map GOp.av⟩)])) rfl rfl rfl (yl_call rfl rfl (.cons rfl (.cons rfl .nil)) cal23 ?_) ?_
  refine pcw (c := _) Try.func23 rfl rfl ?_; intro Q hret hnorm
  refine tc tbk 12 (.mk ?_)
  refine sY (yv_to (y := boo false) (yv_eql rfl rfl rfl) (congrArg boo (by decide))) ?_
  refine tr tbk 5 (.mk ?_)
  refine sY (yv_to (y := boo false) (yv_eql rfl rfl rfl) (congrArg boo (by decide))) ?_
  refine tr tbk 5 (.mk ?_)
  refine sY (yv_to (y := boo false) (yv_eql rfl rfl rfl) (congrArg boo (by decide))) ?_
  refine tr tbk 5 (.mk ?_)
  refine sY (yv_to (y := boo false) (yv_eql rfl rfl rfl) (congrArg boo (by decide))) ?_
  refine tr tbk 5 (.mk ?_)
  refine sY (yv_to (y := boo false) (yv_eql rfl rfl rfl) (congrArg boo (by decide))) ?_
  refine tr tbk 5 (.mk ?_)
  refine sY (yv_to (y := boo false) (yv_eql rfl rfl rfl) (congrArg boo (by decide))) ?_
  refine tr tbk 12 (.mk ?_)
  obtain rfl := nxt_e h3
  refine w_ret (hret _ _ (hk [(1, ⟨87, 2, true, true, w0_1, [[str x309.1, boo x309.2]]⟩), (2, ⟨28, 9, true, true, v15, [[int x13, int 0, int 0, int 0, int 0, int x308, int 0, int 0, .sc (.slice none 0 0)]]⟩), (4, ⟨28, 9, true, true, w1_1, y1_4.map GOp.av⟩)]) (.tmp rfl .nil) (HK.le ⟨rfl, rfl, rfl, trivial⟩) ?_)
  exact ⟨(), (), rfl, rfl, rfl⟩
  rintro y _ ⟨_, _, rfl, hc, rfl⟩
  subst hc
  refine tr tbk 1 (.mk ?_)
  obtain ⟨p311, h2⟩ := asrt_e h2
  obtain ⟨x312, e312, h2⟩ := bnd_e h2
  obtain ⟨x313, e313, h2⟩ := bnd_e h2
  refine rse rfl rfl rfl (yl_call rfl rfl (.cons rfl .nil) cal31 (PC.mono (numP_c (s := x309) (id := 1) (ver := w0_1) rfl p311) (R' := fun y H' => y = int x312 ∧ H' = upd _ 1 (some (rdr 87 w0_1 x313))) (fun y H' h => ⟨h.1.trans (congrArg int e312), h.2.trans (rdr_cong e313)⟩))) ?_; rintro _ _ ⟨rfl, rfl⟩
  refine tr tbk 1 (.mk ?_)
  refine sS ⟨28, 9, true, true, v15, [[int x13, int 0, int 0, int 0, int 0, int x308, int 0, int x312, .sc (.slice none 0 0)]]⟩ sh3 ?_
  refine tr tbk 8 (.mk ?_)
  refine jn h2 [2, 3, 4, 5, 6, 15, 16] [1, 2, 4] (fun (a : Bool) (k : Unit) => [(45, boo a)]) (fun a k => []) ⟨fun j314 h3 => ?_, ?_⟩
  refine tc tbk 2 (.mk ?_)
  refine sY (yv_callR rfl rfl (.cons rfl .nil) cal32 (badP_c (s := x313) (id := 1) (ver := w0_1) rfl) (.sc _)) ?_
  refine tr tbk 1 (.mk ?_)
  obtain ⟨x315, e315, h3⟩ := bnd_e h3
  refine rsas 40 (boo x315) rfl (congrArg boo e315) ?_
  refine rsas 41 (boo x315) rfl (congrArg boo e315) ?_
  cases x315
  replace h3 := cf h3
  refine tr tbk 1 (.mk ?_)
  obtain ⟨x316, e316, h3⟩ := bind_e h3
  refine sY (yv_callP rfl rfl (.cons rfl .nil) cal8 (.cons (CvL.agg (.cons (.refl _) (.cons (.refl _) (.cons (.refl _) (.cons (.refl _) (.cons (.refl _) (.cons (.refl _) (.cons (.refl _) (.cons (.refl _) (.cons (.nil _) .nil)))))))))) .nil) (d_ops_Check_c e316)) ?_
  refine nb tbk h3 fun x317 h3 => ?_
  refine tr tbk 2 (.mk ?_)
  exact lf h3 () leA
  replace h3 := ct h3
  refine tr tbk 5 (.mk ?_)
  exact lf h3 () leA
  rintro y3_1 _ h2
  replace h2 := asrt_e h2
  obtain ⟨rfl, h2⟩ := h2
  refine tc tbk 5 (.mk ?_)
  refine sY (yv_buildSlice (ps := [(0, _)]) (rows := [[int x13, int 0, int 0, int 0, int 0, int x308, int 0, int x312, .sc (.slice none 0 0)]]) rfl Try.underlying22 bz28 (.cons rfl .nil) (by kernel_rfl) rfl rfl rfl) ?_
  obtain ⟨x318, e318, h2⟩ := bnd_e h2
  obtain ⟨p319, h2⟩ := asrt_e h2
  refine rse rfl rfl rfl (yl_appT (g := GOp.av) (l := y1_4) (m := [(⟨x13, 0, 0, 0, 0, x308, 0, x312, []⟩ : GOp)]) .any rfl Try.underlying22 bz28 by28 rfl rfl rfl rfl rfl rfl rfl rfl rfl rfl (Eq.symm rfl) (CvLL.list (.cons (.cons (.refl _) (.cons (.refl _) (.cons (.refl _) (.cons (.refl _) (.cons (.refl _) (.cons (.refl _) (.cons (.refl _) (.cons (.refl _) (.cons (.nil _) .nil))))))))) .nil)) (fun _ => rfl) e318 p319) ?_; rintro _ _ ⟨v320, -, rfl, rfl⟩
  refine tr tbk 3 (.mk ?_)
  exact lf h2 v320 leA
  replace h2 := ct h2
  refine w_rangeD [0, 0, 2, 7, 15] (fun i => bif Nat.beq i 1 then ([2]) else bif Nat.beq i 2 then ([2]) else []) (fun i => [2]) 4 [0, 1, 2, 3] mixed (by kernel_rfl) rfl rfl rfl rfl rfl rfl rfl rfl rfl rfl rfl rfl rfl Try.underlying9 ?_
  refine eP (fun H hH => yv_callP rfl rfl .nil cal20 (CvL.refl _) forms20_c) ?_
  refine eF fo28_0 ?_
  refine eL sh3 ?_
  refine de_as 23 (int 2) rfl (congrArg int (of_decide_eq_true e18)) ?_
  refine de_pure rfl rfl rfl rfl (fun H hH => yv_indexA rfl Try.underlying46 sh45 rfl rfl (by decide) rfl) ?_
  refine ⟨_, rfl, rfl, fun b321 => ?_⟩
  refine tc tbk 13 (.mk ?_)
  refine sY (yv_to (y := boo false) (yv_eql rfl rfl rfl) (congrArg boo (by decide))) ?_
  refine tr tbk 4 (.mk ?_)
  obtain ⟨j322, h3, h2⟩ := bind_e h2
  refine rse (Out := fun y H' => (∃ (a : Unit) (k : Unit), a = j322 ∧ y = .pt 2 v15 0 5 ∧ H' = hk [(1, ⟨87, 2, true, true, w0_1, [[str x14.1, boo x14.2]]⟩), (2, ⟨28, 9, true, true, v15, [[int x13, int 0, int 0, int 0, int 0, int 0, int 0, int 0, .sc (.slice none 0 0)]]⟩), (4, ⟨28, 9, true, true, w1_1, y1_4.map GOp.av⟩)])) rfl rfl rfl (yl_call rfl rfl (.cons rfl (.cons rfl .nil)) cal23 ?_) ?_
  refine pcw (c := _) Try.func23 rfl rfl ?_; intro Q hret hnorm
  refine tc tbk 12 (.mk ?_)
  refine sY (yv_to (y := boo false) (yv_eql rfl rfl rfl) (congrArg boo (by decide))) ?_
  refine tr tbk 5 (.mk ?_)
  refine sY (yv_to (y := boo false) (yv_eql rfl rfl rfl) (congrArg boo (by decide))) ?_
  refine tr tbk 5 (.mk ?_)
  refine sY (yv_to (y := boo false) (yv_eql rfl rfl rfl) (congrArg boo (by decide))) ?_
  refine tr tbk 5 (.mk ?_)
  refine sY (yv_to (y := boo false) (yv_eql rfl rfl rfl) (congrArg boo (by decide))) ?_
  refine tr tbk 5 (.mk ?_)
  refine sY (yv_to (y := boo true) (yv_eql rfl rfl rfl) (congrArg boo (by decide))) ?_
  refine tr tbk 10 (.mk ?_)
  obtain rfl := nxt_e h3
  refine w_ret (hret _ _ (hk [(1, ⟨87, 2, true, true, w0_1, [[str x14.1, boo x14.2]]⟩), (2, ⟨28, 9, true, true, v15, [[int x13, int 0, int 0, int 0, int 0, int 0, int 0, int 0, .sc (.slice none 0 0)]]⟩), (4, ⟨28, 9, true, true, w1_1, y1_4.map GOp.av⟩)]) (.tmp rfl .nil) (HK.le ⟨rfl, rfl, rfl, trivial⟩) ?_)
  exact ⟨(), (), rfl, rfl, rfl⟩
  rintro y _ ⟨_, _, rfl, hc, rfl⟩
  subst hc
  refine tr tbk 1 (.mk ?_)
  obtain ⟨p323, h2⟩ := asrt_e h2
  obtain ⟨x324, e324, h2⟩ := bnd_e h2
  obtain ⟨x325, e325, h2⟩ := bnd_e h2
  refine rse rfl rfl rfl (yl_call rfl rfl (.cons rfl .nil) cal31 (PC.mono (numP_c (s := x14) (id := 1) (ver := w0_1) rfl p323) (R' := fun y H' => y = int x324 ∧ H' = upd _ 1 (some (rdr 87 w0_1 x325))) (fun y H' h => ⟨h.1.trans (congrArg int e324), h.2.trans (rdr_cong e325)⟩))) ?_; rintro _ _ ⟨rfl, rfl⟩
  refine tr tbk 1 (.mk ?_)
  refine sS ⟨28, 9, true, true, v15, [[int x13, int 0, int 0, int 0, int 0, int x324, int 0, int 0, .sc (.slice none 0 0)]]⟩ sh3 ?_
  refine tr tbk 15 (.mk ?_)
  refine sY (yv_to (y := boo false) (yv_eql rfl rfl rfl) (congrArg boo (by decide))) ?_
  refine tr tbk 4 (.mk ?_)
  obtain ⟨j326, h3, h2⟩ := bind_e h2
  refine rse (Out := fun y H' => (∃ (a : Unit) (k : Unit), a = j326 ∧ y = .pt 2 v15 0 6 ∧ H' = hk [(1, ⟨87, 2, true, true, w0_1, [[str x325.1, boo x325.2]]⟩), (2, ⟨28, 9, true, true, v15, [[int x13, int 0, int 0, int 0, int 0, int x324, int 0, int 0, .sc (.slice none 0 0)]]⟩), (4, ⟨28, 9, true, true, w1_1, y1_4.map GOp.av⟩)])) rfl rfl rfl (yl_call rfl rfl (.cons rfl (.cons rfl .nil)) cal23 ?_) ?_
  refine pcw (c := _) Try.func23 rfl rfl ?_; intro Q hret hnorm
  refine tc tbk 12 (.mk ?_)
  refine sY (yv_to (y := boo false) (yv_eql rfl rfl rfl) (congrArg boo (by decide))) ?_
  refine tr tbk 5 (.mk ?_)
  refine sY (yv_to (y := boo false) (yv_eql rfl rfl rfl) (congrArg boo (by decide))) ?_
  refine tr tbk 5 (.mk ?_)
  refine sY (yv_to (y := boo false) (yv_eql rfl rfl rfl) (congrArg boo (by decide))) ?_
  refine tr tbk 5 (.mk ?_)
  refine sY (yv_to (y := boo false) (yv_eql rfl rfl rfl) (congrArg boo (by decide))) ?_
  refine tr tbk 5 (.mk ?_)
  refine sY (yv_to (y := boo false) (yv_eql rfl rfl rfl) (congrArg boo (by decide))) ?_
  refine tr tbk 5 (.mk ?_)
  refine sY (yv_to (y := boo true) (yv_eql rfl rfl rfl) (congrArg boo (by decide))) ?_
  refine tr tbk 10 (.mk ?_)
  obtain rfl := nxt_e h3
  refine w_ret (hret _ _ (hk [(1, ⟨87, 2, true, true, w0_1, [[str x325.1, boo x325.2]]⟩), (2, ⟨28, 9, true, true, v15, [[int x13, int 0, int 0, int 0, int 0, int x324, int 0, int 0, .sc (.slice none 0 0)]]⟩), (4, ⟨28, 9, true, true, w1_1, y1_4.map GOp.av⟩)]) (.tmp rfl .nil) (HK.le ⟨rfl, rfl, rfl, trivial⟩) ?_)
  exact ⟨(), (), rfl, rfl, rfl⟩
  rintro y _ ⟨_, _, rfl, hc, rfl⟩
  subst hc
  refine tr tbk 1 (.mk ?_)
  obtain ⟨p327, h2⟩ := asrt_e h2
  obtain ⟨x328, e328, h2⟩ := bnd_e h2
  obtain ⟨x329, e329, h2⟩ := bnd_e h2
  refine rse rfl rfl rfl (yl_call rfl rfl (.cons rfl .nil) cal31 (PC.mono (numP_c (s := x325) (id := 1) (ver := w0_1) rfl p327) (R' := fun y H' => y = int x328 ∧ H' = upd _ 1 (some (rdr 87 w0_1 x329))) (fun y H' h => ⟨h.1.trans (congrArg int e328), h.2.trans (rdr_cong e329)⟩))) ?_; rintro _ _ ⟨rfl, rfl⟩
  refine tr tbk 1 (.mk ?_)
  refine sS ⟨28, 9, true, true, v15, [[int x13, int 0, int 0, int 0, int 0, int x324, int x328, int 0, .sc (.slice none 0 0)]]⟩ sh3 ?_
  refine tr tbk 15 (.mk ?_)
  refine sY (yv_to (y := boo false) (yv_eql rfl rfl rfl) (congrArg boo (by decide))) ?_
  refine tr tbk 4 (.mk ?_)
  obtain ⟨j330, h3, h2⟩ := bind_e h2
  refine rse (Out := fun y H' => (∃ (a : Unit) (k : Unit), a = j330 ∧ y = .pt 2 v15 0 7 ∧ H' = hk [(1, ⟨87, 2, true, true, w0_1, [[str x329.1, boo x329.2]]⟩), (2, ⟨28, 9, true, true, v15, [[int x13, int 0, int 0, int 0, int 0, int x324, int x328, int 0, .sc (.slice none 0 0)]]⟩), (4, ⟨28, 9, true, true, w1_1, y1_4.map GOp.av⟩)])) rfl rfl rfl (yl_call rfl rfl (.cons rfl (.cons rfl .nil)) cal23 ?_) ?_
  refine pcw (c := _) Try.func23 rfl rfl ?_; intro Q hret hnorm
  refine tc tbk 12 (.mk ?_)
  refine sY (yv_to (y := boo false) (yv_eql rfl rfl rfl) (congrArg boo (by decide))) ?_
  refine tr tbk 5 (.mk ?_)
  refine sY (yv_to (y := boo false) (yv_eql rfl rfl rfl) (congrArg boo (by decide))) ?_
  refine tr tbk 5 (.mk ?_)
  refine sY (yv_to (y := boo false) (yv_eql rfl rfl rfl) (congrArg boo (by decide))) ?_
  refine tr tbk 5 (.mk ?_)
  refine sY (yv_to (y := boo false) (yv_eql rfl rfl rfl) (congrArg boo (by decide))) ?_
  refine tr tbk 5 (.mk ?_)
  refine sY (yv_to (y := boo false) (yv_eql rfl rfl rfl) (congrArg boo (by decide))) ?_
  refine tr tbk 5 (.mk ?_)
  refine sY (yv_to (y := boo false) (yv_eql rfl rfl rfl) (congrArg boo (by decide))) ?_
  refine tr tbk 12 (.mk ?_)
  obtain rfl := nxt_e h3
  refine w_ret (hret _ _ (hk [(1, ⟨87, 2, true, true, w0_1, [[str x329.1, boo x329.2]]⟩), (2, ⟨28, 9, true, true, v15, [[int x13, int 0, int 0, int 0, int 0, int x324, int x328, int 0, .sc (.slice none 0 0)]]⟩), (4, ⟨28, 9, true, true, w1_1, y1_4.map GOp.av⟩)]) (.tmp rfl .nil) (HK.le ⟨rfl, rfl, rfl, trivial⟩) ?_)
  exact ⟨(), (), rfl, rfl, rfl⟩
  rintro y _ ⟨_, _, rfl, hc, rfl⟩
  subst hc
  refine tr tbk 1 (.mk ?_)
  obtain ⟨p331, h2⟩ := asrt_e h2
  obtain ⟨x332, e332, h2⟩ := bnd_e h2
  obtain ⟨x333, e333, h2⟩ := bnd_e h2
  refine rse rfl rfl rfl (yl_call rfl rfl (.cons rfl .nil) cal31 (PC.mono (numP_c (s := x329) (id := 1) (ver := w0_1) rfl p331) (R' := fun y H' => y = int x332 ∧ H' = upd _ 1 (some (rdr 87 w0_1 x333))) (fun y H' h => ⟨h.1.trans (congrArg int e332), h.2.trans (rdr_cong e333)⟩))) ?_; rintro _ _ ⟨rfl, rfl⟩
  refine tr tbk 1 (.mk ?_)
  refine sS ⟨28, 9, true, true, v15, [[int x13, int 0, int 0, int 0, int 0, int x324, int x328, int x332, .sc (.slice none 0 0)]]⟩ sh3 ?_
  refine tr tbk 8 (.mk ?_)
  refine jn h2 [2, 3, 4, 5, 6, 15, 16] [1, 2, 4] (fun (a : Bool) (k : Unit) => [(45, boo a)]) (fun a k => []) ⟨fun j334 h3 => ?_, ?_⟩
  refine tc tbk 2 (.mk ?_)
  refine sY (yv_callR rfl rfl (.cons rfl .nil) cal32 (badP_c (s := x333) (id := 1) (ver := w0_1) rfl) (.sc _)) ?_
  refine tr tbk 1 (.mk ?_)
  obtain ⟨x335, e335, h3⟩ := bnd_e h3
  refine rsas 40 (boo x335) rfl (congrArg boo e335) ?_
  refine rsas 41 (boo x335) rfl (congrArg boo e335) ?_
  cases x335
  replace h3 := cf h3
  refine tr tbk 1 (.mk ?_)
  obtain ⟨x336, e336, h3⟩ := bind_e h3
  refine sY (yv_callP rfl rfl (.cons rfl .nil) cal8 (.cons (CvL.agg (.cons (.refl _) (.cons (.refl _) (.cons (.refl _) (.cons (.refl _) (.cons (.refl _) (.cons (.refl _) (.cons (.refl _) (.cons (.refl _) (.cons (.nil _) .nil)))))))))) .nil) (d_ops_Check_c e336)) ?_
  refine nb tbk h3 fun x337 h3 => ?_
  refine tr tbk 2 (.mk ?_)
  exact lf h3 () leA
  replace h3 := ct h3
  refine tr tbk 5 (.mk ?_)
  exact lf h3 () leA
  rintro y3_1 _ h2
  replace h2 := asrt_e h2
  obtain ⟨rfl, h2⟩ := h2
  refine tc tbk 5 (.mk ?_)
  refine sY (yv_buildSlice (ps := [(0, _)]) (rows := [[int x13, int 0, int 0, int 0, int 0, int x324, int x328, int x332, .sc (.slice none 0 0)]]) rfl Try.underlying22 bz28 (.cons rfl .nil) (by kernel_rfl) rfl rfl rfl) ?_
  obtain ⟨x338, e338, h2⟩ := bnd_e h2
  obtain ⟨p339, h2⟩ := asrt_e h2
  refine rse rfl rfl rfl (yl_appT (g := GOp.av) (l := y1_4) (m := [(⟨x13, 0, 0, 0, 0, x324, x328, x332, []⟩ : GOp)]) .any rfl Try.underlying22 bz28 by28 rfl rfl rfl rfl rfl rfl rfl rfl rfl rfl (Eq.symm rfl) (CvLL.list (.cons (.cons (.refl _) (.cons (.refl _) (.cons (.refl _) (.cons (.refl _) (.cons (.refl _) (.cons (.refl _) (.cons (.refl _) (.cons (.refl _) (.cons (.nil _) .nil))))))))) .nil)) (fun _ => rfl) e338 p339) ?_; rintro _ _ ⟨v340, -, rfl, rfl⟩
  refine tr tbk 3 (.mk ?_)
  exact lf h2 v340 leA
  replace h2 := ct h2
  refine w_rangeD [0, 0, 2, 7, 15] (fun i => bif Nat.beq i 1 then ([2]) else bif Nat.beq i 2 then ([2]) else []) (fun i => [2]) 4 [0, 1, 2, 3] mixed (by kernel_rfl) rfl rfl rfl rfl rfl rfl rfl rfl rfl rfl rfl rfl rfl Try.underlying9 ?_
  refine eP (fun H hH => yv_callP rfl rfl .nil cal20 (CvL.refl _) forms20_c) ?_
  refine eF fo28_0 ?_
  refine eL sh3 ?_
  refine de_as 23 (int 1) rfl (congrArg int (of_decide_eq_true e17)) ?_
  refine de_pure rfl rfl rfl rfl (fun H hH => yv_indexA rfl Try.underlying46 sh45 rfl rfl (by decide) rfl) ?_
  refine ⟨_, rfl, rfl, fun b341 => ?_⟩
  refine tc tbk 13 (.mk ?_)
  refine sY (yv_to (y := boo false) (yv_eql rfl rfl rfl) (congrArg boo (by decide))) ?_
  refine tr tbk 4 (.mk ?_)
  obtain ⟨j342, h3, h2⟩ := bind_e h2
  refine rse (Out := fun y H' => (∃ (a : Unit) (k : Unit), a = j342 ∧ y = .pt 2 v15 0 1 ∧ H' = hk [(1, ⟨87, 2, true, true, w0_1, [[str x14.1, boo x14.2]]⟩), (2, ⟨28, 9, true, true, v15, [[int x13, int 0, int 0, int 0, int 0, int 0, int 0, int 0, .sc (.slice none 0 0)]]⟩), (4, ⟨28, 9, true, true, w1_1, y1_4.map GOp.av⟩)])) rfl rfl rfl (yl_call rfl rfl (.cons rfl (.cons rfl .nil)) cal23 ?_) ?_
  refine pcw (c := _) Try.func23 rfl rfl ?_; intro Q hret hnorm
  refine tc tbk 12 (.mk ?_)
  refine sY (yv_to (y := boo true) (yv_eql rfl rfl rfl) (congrArg boo (by decide))) ?_
  refine tr tbk 10 (.mk ?_)
  obtain rfl := nxt_e h3
  refine w_ret (hret _ _ (hk [(1, ⟨87, 2, true, true, w0_1, [[str x14.1, boo x14.2]]⟩), (2, ⟨28, 9, true, true, v15, [[int x13, int 0, int 0, int 0, int 0, int 0, int 0, int 0, .sc (.slice none 0 0)]]⟩), (4, ⟨28, 9, true, true, w1_1, y1_4.map GOp.av⟩)]) (.tmp rfl .nil) (HK.le ⟨rfl, rfl, rfl, trivial⟩) ?_)
  exact ⟨(), (), rfl, rfl, rfl⟩
  rintro y _ ⟨_, _, rfl, hc, rfl⟩
  subst hc
  refine tr tbk 1 (.mk ?_)
  obtain ⟨p343, h2⟩ := asrt_e h2
  obtain ⟨x344, e344, h2⟩ := bnd_e h2
  obtain ⟨x345, e345, h2⟩ := bnd_e h2
  refine rse rfl rfl rfl (yl_call rfl rfl (.cons rfl .nil) cal31 (PC.mono (numP_c (s := x14) (id := 1) (ver := w0_1) rfl p343) (R' := fun y H' => y = int x344 ∧ H' = upd _ 1 (some (rdr 87 w0_1 x345))) (fun y H' h => ⟨h.1.trans (congrArg int e344), h.2.trans (rdr_cong e345)⟩))) ?_; rintro _ _ ⟨rfl, rfl⟩
  refine tr tbk 1 (.mk ?_)
  refine sS ⟨28, 9, true, true, v15, [[int x13, int x344, int 0, int 0, int 0, int 0, int 0, int 0, .sc (.slice none 0 0)]]⟩ sh3 ?_
  refine tr tbk 15 (.mk ?_)
  refine sY (yv_to (y := boo false) (yv_eql rfl rfl rfl) (congrArg boo (by decide))) ?_
  refine tr tbk 4 (.mk ?_)
  obtain ⟨j346, h3, h2⟩ := bind_e h2
  refine rse (Out := fun y H' => (∃ (a : Unit) (k : Unit), a = j346 ∧ y = .pt 2 v15 0 2 ∧ H' = hk [(1, ⟨87, 2, true, true, w0_1, [[str x345.1, boo x345.2]]⟩), (2, ⟨28, 9, true, true, v15, [[int x13, int x344, int 0, int 0, int 0, int 0, int 0, int 0, .sc (.slice none 0 0)]]⟩), (4, ⟨28, 9, true, true, w1_1, y1_4.map GOp.av⟩)])) rfl rfl rfl (yl_call rfl rfl (.cons rfl (.cons rfl .nil)) cal23 ?_) ?_
  refine pcw (c := _) Try.func23 rfl rfl ?_; intro Q hret hnorm
  refine tc tbk 12 (.mk ?_)
  refine sY (yv_to (y := boo false) (yv_eql rfl rfl rfl) (congrArg boo (by decide))) ?_
  refine tr tbk 5 (.mk ?_)
  refine sY (yv_to (y := boo true) (yv_eql rfl rfl rfl) (congrArg boo (by decide))) ?_
  refine tr tbk 10 (.mk ?_)
  obtain rfl := nxt_e h3
  refine w_ret (hret _ _ (hk [(1, ⟨87, 2, true, true, w0_1, [[str x345.1, boo x345.2]]⟩), (2, ⟨28, 9, true, true, v15, [[int x13, int x344, int 0, int 0, int 0, int 0, int 0, int 0, .sc (.slice none 0 0)]]⟩), (4, ⟨28, 9, true, true, w1_1, y1_4.map GOp.av⟩)]) (.tmp rfl .nil) (HK.le ⟨rfl, rfl, rfl, trivial⟩) ?_)
  exact ⟨(), (), rfl, rfl, rfl⟩
  rintro y _ ⟨_, _, rfl, hc, rfl⟩
  subst hc
  refine tr tbk 1 (.mk ?_)
  obtain ⟨p347, h2⟩ := asrt_e h2
  obtain ⟨x348, e348, h2⟩ := bnd_e h2
  obtain ⟨x349, e349, h2⟩ := bnd_e h2
  refine rse rfl rfl rfl (yl_call rfl rfl (.cons rfl .nil) cal31 (PC.mono (numP_c (s := x345) (id := 1) (ver := w0_1) rfl p347) (R' := fun y H' => y = int x348 ∧ H' = upd _ 1 (some (rdr 87 w0_1 x349))) (fun y H' h => ⟨h.1.trans (congrArg int e348), h.2.trans (rdr_cong e349)⟩))) ?_; rintro _ _ ⟨rfl, rfl⟩
  refine tr tbk 1 (.mk ?_)
  refine sS ⟨28, 9, true, true, v15, [[int x13, int x344, int x348, int 0, int 0, int 0, int 0, int 0, .sc (.slice none 0 0)]]⟩ sh3 ?_
  refine tr tbk 15 (.mk ?_)
  refine sY (yv_to (y := boo false) (yv_eql rfl rfl rfl) (congrArg boo (by decide))) ?_
  refine tr tbk 4 (.mk ?_)
  obtain ⟨j350, h3, h2⟩ := bind_e h2
  refine rse (Out := fun y H' => (∃ (a : Unit) (k : Unit), a = j350 ∧ y = .pt 2 v15 0 3 ∧ H' = hk [(1, ⟨87, 2, true, true, w0_1, [[str x349.1, boo x349.2]]⟩), (2, ⟨28, 9, true, true, v15, [[int x13, int x344, int x348, int 0, int 0, int 0, int 0, int 0, .sc (.slice none 0 0)]]⟩), (4, ⟨28, 9, true, true, w1_1, y1_4.map GOp.av⟩)])) rfl rfl rfl (yl_call rfl rfl (.cons rfl (.cons rfl .nil)) cal23 ?_) ?_
  refine pcw (c := _) Try.func23 rfl rfl ?_; intro Q hret hnorm
  refine tc tbk 12 (.mk ?_)
  refine sY (yv_to (y := boo false) (yv_eql rfl rfl rfl) (congrArg boo (by decide))) ?_
  refine tr tbk 5 (.mk ?_)
  refine sY (yv_to (y := boo false) (yv_eql rfl rfl rfl) (congrArg boo (by decide))) ?_
  refine tr tbk 5 (.mk ?_)
  refine sY (yv_to (y := boo true) (yv_eql rfl rfl rfl) (congrArg boo (by decide))) ?_
  refine tr tbk 10 (.mk ?_)
  obtain rfl := nxt_e h3
  refine w_ret (hret _ _ (hk [(1, ⟨87, 2, true, true, w0_1, [[str x349.1, boo x349.2]]⟩), (2, ⟨28, 9, true, true, v15, [[int x13, int x344, int x348, int 0, int 0, int 0, int 0, int 0, .sc (.slice none 0 0)]]⟩), (4, ⟨28, 9, true, true, w1_1, y1_4.map GOp.av⟩)]) (.tmp rfl .nil) (HK.le ⟨rfl, rfl, rfl, trivial⟩) ?_)
  exact ⟨(), (), rfl, rfl, rfl⟩
  rintro y _ ⟨_, _, rfl, hc, rfl⟩
  subst hc
  refine tr tbk 1 (.mk ?_)
  obtain ⟨p351, h2⟩ := asrt_e h2
  obtain ⟨x352, e352, h2⟩ := bnd_e h2
  obtain ⟨x353, e353, h2⟩ := bnd_e h2
  refine rse rfl rfl rfl (yl_call rfl rfl (.cons rfl .nil) cal31 (PC.mono (numP_c (s := x349) (id := 1) (ver := w0_1) rfl p351) (R' := fun y H' => y = int x352 ∧ H' = upd _ 1 (some (rdr 87 w0_1 x353))) (fun y H' h => ⟨h.1.trans (congrArg int e352), h.2.trans (rdr_cong e353)⟩))) ?_; rintro _ _ ⟨rfl, rfl⟩
  refine tr tbk 1 (.mk ?_)
  refine sS ⟨28, 9, true, true, v15, [[int x13, int x344, int x348, int x352, int 0, int 0, int 0, int 0, .sc (.slice none 0 0)]]⟩ sh3 ?_
  refine tr tbk 15 (.mk ?_)
  refine sY (yv_to (y := boo false) (yv_eql rfl rfl rfl) (congrArg boo (by decide))) ?_
  refine tr tbk 4 (.mk ?_)
  obtain ⟨j354, h3, h2⟩ := bind_e h2
  refine rse (Out := fun y H' => (∃ (a : Unit) (k : Unit), a = j354 ∧ y = .pt 2 v15 0 5 ∧ H' = hk [(1, ⟨87, 2, true, true, w0_1, [[str x353.1, boo x353.2]]⟩), (2, ⟨28, 9, true, true, v15, [[int x13, int x344, int x348, int x352, int 0, int 0, int 0, int 0, .sc (.slice none 0 0)]]⟩), (4, ⟨28, 9, true, true, w1_1, y1_4.map GOp.av⟩)])) rfl rfl rfl (yl_call rfl rfl (.cons rfl (.cons rfl .nil)) cal23 ?_) ?_
  refine pcw (c := _) Try.func23 rfl rfl ?_; intro Q hret hnorm
  refine tc tbk 12 (.mk ?_)
  refine sY (yv_to (y := boo false) (yv_eql rfl rfl rfl) (congrArg boo (by decide))) ?_
  refine tr tbk 5 (.mk ?_)
  refine sY (yv_to (y := boo false) (yv_eql rfl rfl rfl) (congrArg boo (by decide))) ?_
  refine tr tbk 5 (.mk ?_)
  refine sY (yv_to (y := boo false) (yv_eql rfl rfl rfl) (congrArg boo (by decide))) ?_
  refine tr tbk 5 (.mk ?_)
  refine sY (yv_to (y := boo false) (yv_eql rfl rfl rfl) (congrArg boo (by decide))) ?_
  refine tr tbk 5 (.mk ?_)
  refine sY (yv_to (y := boo true) (yv_eql rfl rfl rfl) (congrArg boo (by decide))) ?_
  refine tr tbk 10 (.mk ?_)
  obtain rfl := nxt_e h3
  refine w_ret (hret _ _ (hk [(1, ⟨87, 2, true, true, w0_1, [[str x353.1, boo x353.2]]⟩), (2, ⟨28, 9, true, true, v15, [[int x13, int x344, int x348, int x352, int 0, int 0, int 0, int 0, .sc (.slice none 0 0)]]⟩), (4, ⟨28, 9, true, true, w1_1, y1_4.map GOp.av⟩)]) (.tmp rfl .nil) (HK.le ⟨rfl, rfl, rfl, trivial⟩) ?_)
  exact ⟨(), (), rfl, rfl, rfl⟩
  rintro y _ ⟨_, _, rfl, hc, rfl⟩
  subst hc
  refine tr tbk 1 (.mk ?_)
  obtain ⟨p355, h2⟩ := asrt_e h2
  obtain ⟨x356, e356, h2⟩ := bnd_e h2
  obtain ⟨x357, e357, h2⟩ := bnd_e h2
  refine rse rfl rfl rfl (yl_call rfl rfl (.cons rfl .nil) cal31 (PC.mono (numP_c (s := x353) (id := 1) (ver := w0_1) rfl p355) (R' := fun y H' => y = int x356 ∧ H' = upd _ 1 (some (rdr 87 w0_1 x357))) (fun y H' h => ⟨h.1.trans (congrArg int e356), h.2.trans (rdr_cong e357)⟩))) ?_; rintro _ _ ⟨rfl, rfl⟩
  refine tr tbk 1 (.mk ?_)
  refine sS ⟨28, 9, true, true, v15, [[int x13, int x344, int x348, int x352, int 0, int x356, int 0, int 0, .sc (.slice none 0 0)]]⟩ sh3 ?_
  refine tr tbk 15 (.mk ?_)
  refine sY (yv_to (y := boo false) (yv_eql rfl rfl rfl) (congrArg boo (by decide))) ?_
  refine tr tbk 4 (.mk ?_)
  obtain ⟨j358, h3, h2⟩ := bind_e h2
  refine rse (Out := fun y H' => (∃ (a : Unit) (k : Unit), a = j358 ∧ y = .pt 2 v15 0 6 ∧ H' = hk [(1, ⟨87, 2, true, true, w0_1, [[str x357.1, boo x357.2]]⟩), (2, ⟨28, 9, true, true, v15, [[int x13, int x344, int x348, int x352, int 0, int x356, int 0, int 0, .sc (.slice none 0 0)]]⟩), (4, ⟨28, 9, true, true, w1_1, y1_4.map GOp.av⟩)])) rfl rfl rfl (yl_call rfl rfl (.cons rfl (.cons rfl .nil)) cal23 ?_) ?_
  refine pcw (c := _) Try.func23 rfl rfl ?_; intro Q hret hnorm
  refine tc tbk 12 (.mk ?_)
  refine sY (yv_to (y := boo false) (yv_eql rfl rfl rfl) (congrArg boo (by decide))) ?_
  refine tr tbk 5 (.mk ?_)
  refine sY (yv_to (y := boo false) (yv_eql rfl rfl rfl) (congrArg boo (by decide))) ?_
  refine tr tbk 5 (.mk ?_)
  refine sY (yv_to (y := boo false) (yv_eql rfl rfl rfl) (congrArg boo (by decide))) ?_
  refine tr tbk 5 (.mk ?_)
  refine sY (yv_to (y := boo false) (yv_eql rfl rfl rfl) (congrArg boo (by decide))) ?_
  refine tr tbk 5 (.mk ?_)
  refine sY (yv_to (y := boo false) (yv_eql rfl rfl rfl) (congrArg boo (by decide))) ?_
  refine tr tbk 5 (.mk ?_)
  refine sY (yv_to (y := boo true) (yv_eql rfl rfl rfl) (congrArg boo (by decide))) ?_
  refine tr tbk 10 (.mk ?_)
  obtain rfl := nxt_e h3
  refine w_ret (hret _ _ (hk [(1, ⟨87, 2, true, true, w0_1, [[str x357.1, boo x357.2]]⟩), (2, ⟨28, 9, true, true, v15, [[int x13, int x344, int x348, int x352, int 0, int x356, int 0, int 0, .sc (.slice none 0 0)]]⟩), (4, ⟨28, 9, true, true, w1_1, y1_4.map GOp.av⟩)]) (.tmp rfl .nil) (HK.le ⟨rfl, rfl, rfl, trivial⟩) ?_)
  exact ⟨(), (), rfl, rfl, rfl⟩
  rintro y _ ⟨_, _, rfl, hc, rfl⟩
  subst hc
  refine tr tbk 1 (.mk ?_)
  obtain ⟨p359, h2⟩ := asrt_e h2
  obtain ⟨x360, e360, h2⟩ := bnd_e h2
  obtain ⟨x361, e361, h2⟩ := bnd_e h2
  refine rse rfl rfl rfl (yl_call rfl rfl (.cons rfl .nil) cal31 (PC.mono (numP_c (s := x357) (id := 1) (ver := w0_1) rfl p359) (R' := fun y H' => y = int x360 ∧ H' = upd _ 1 (some (rdr 87 w0_1 x361))) (fun y H' h => ⟨h.1.trans (congrArg int e360), h.2.trans (rdr_cong e361)⟩))) ?_; rintro _ _ ⟨rfl, rfl⟩
  refine tr tbk 1 (.mk ?_)
  refine sS ⟨28, 9, true, true, v15, [[int x13, int x344, int x348, int x352, int 0, int x356, int x360, int 0, .sc (.slice none 0 0)]]⟩ sh3 ?_
  refine tr tbk 8 (.mk ?_)
  refine jn h2 [2, 3, 4, 5, 6, 15, 16] [1, 2, 4] (fun (a : Bool) (k : Unit) => [(45, boo a)]) (fun a k => []) ⟨fun j362 h3 => ?_, ?_⟩
  refine tc tbk 2 (.mk ?_)
  refine sY (yv_callR rfl rfl (.cons rfl .nil) cal32 (badP_c (s := x361) (id := 1) (ver := w0_1) rfl) (.sc _)) ?_
  refine tr tbk 1 (.mk ?_)
  obtain ⟨x363, e363, h3⟩ := bnd_e h3
  refine rsas 40 (boo x363) rfl (congrArg boo e363) ?_
  refine rsas 41 (boo x363) rfl (congrArg boo e363) ?_
  cases x363
  replace h3 := cf h3
  refine tr tbk 1 (.mk ?_)
  obtain ⟨x364, e364, h3⟩ := bind_e h3
  refine sY (yv_callP rfl rfl (.cons rfl .nil) cal8 (.cons (CvL.agg (.cons (.refl _) (.cons (.refl _) (.cons (.refl _) (.cons (.refl _) (.cons (.refl _) (.cons (.refl _) (.cons (.refl _) (.cons (.refl _) (.cons (.nil _) .nil)))))))))) .nil) (d_ops_Check_c e364)) ?_
  refine nb tbk h3 fun x365 h3 => ?_
  refine tr tbk 2 (.mk ?_)
  exact lf h3 () leA
  replace h3 := ct h3
  refine tr tbk 5 (.mk ?_)
  exact lf h3 () leA
  rintro y3_1 _ h2
  replace h2 := asrt_e h2
  obtain ⟨rfl, h2⟩ := h2
  refine tc tbk 5 (.mk ?_)
  refine sY (yv_buildSlice (ps := [(0, _)]) (rows := [[int x13, int x344, int x348, int x352, int 0, int x356, int x360, int 0, .sc (.slice none 0 0)]]) rfl Try.underlying22 bz28 (.cons rfl .nil) (by kernel_rfl) rfl rfl rfl) ?_
  obtain ⟨x366, e366, h2⟩ := bnd_e h2
  obtain ⟨p367, h2⟩ := asrt_e h2
  refine rse rfl rfl rfl (yl_appT (g := GOp.av) (l := y1_4) (m := [(⟨x13, x344, x348, x352, 0, x356, x360, 0, []⟩ : GOp)]) .any rfl Try.underlying22 bz28 by28 rfl rfl rfl rfl rfl rfl rfl rfl rfl rfl (Eq.symm rfl) (CvLL.list (.cons (.cons (.refl _) (.cons (.refl _) (.cons (.refl _) (.cons (.refl _) (.cons (.refl _) (.cons (.refl _) (.cons (.refl _) (.cons (.refl _) (.cons (.nil _) .nil))))))))) .nil)) (fun _ => rfl) e366 p367) ?_; rintro _ _ ⟨v368, -, rfl, rfl⟩
  refine tr tbk 3 (.mk ?_)
  exact lf h2 v368 leA
  replace h2 := ct h2
  refine w_rangeD [0, 0, 2, 7, 15] (fun i => bif Nat.beq i 1 then ([2]) else bif Nat.beq i 2 then ([2]) else []) (fun i => [2]) 4 [0, 1, 2, 3] mixed (by kernel_rfl) rfl rfl rfl rfl rfl rfl rfl rfl rfl rfl rfl rfl rfl Try.underlying9 ?_
  refine eP (fun H hH => yv_callP rfl rfl .nil cal20 (CvL.refl _) forms20_c) ?_
  refine eF fo28_0 ?_
  refine eL sh3 ?_
  refine de_as 23 (int 0) rfl (congrArg int (of_decide_eq_true e16)) ?_
  refine de_pure rfl rfl rfl rfl (fun H hH => yv_indexA rfl Try.underlying46 sh45 rfl rfl (by decide) rfl) ?_
  refine ⟨_, rfl, rfl, fun b369 => ?_⟩
  refine tc tbk 6 (.mk ?_)
  refine jn h2 [2, 3, 4, 5, 6, 15, 16] [1, 2, 4] (fun (a : Bool) (k : Unit) => [(45, boo a)]) (fun a k => []) ⟨fun j370 h3 => ?_, ?_⟩
  refine tc tbk 2 (.mk ?_)
  refine sY (yv_callR rfl rfl (.cons rfl .nil) cal32 (badP_c (s := x14) (id := 1) (ver := w0_1) rfl) (.sc _)) ?_
  refine tr tbk 1 (.mk ?_)
  obtain ⟨x371, e371, h3⟩ := bnd_e h3
  refine rsas 40 (boo x371) rfl (congrArg boo e371) ?_
  refine rsas 41 (boo x371) rfl (congrArg boo e371) ?_
  cases x371
  replace h3 := cf h3
  refine tr tbk 1 (.mk ?_)
  obtain ⟨x372, e372, h3⟩ := bind_e h3
  refine sY (yv_callP rfl rfl (.cons rfl .nil) cal8 (.cons (CvL.agg (.cons (.refl _) (.cons (.refl _) (.cons (.refl _) (.cons (.refl _) (.cons (.refl _) (.cons (.refl _) (.cons (.refl _) (.cons (.refl _) (.cons (.nil _) .nil)))))))))) .nil) (d_ops_Check_c e372)) ?_
  refine nb tbk h3 fun x373 h3 => ?_
  refine tr tbk 2 (.mk ?_)
  exact lf h3 () leA
  replace h3 := ct h3
  refine tr tbk 5 (.mk ?_)
  exact lf h3 () leA
  rintro y3_1 _ h2
  replace h2 := asrt_e h2
  obtain ⟨rfl, h2⟩ := h2
  refine tc tbk 5 (.mk ?_)
  refine sY (yv_buildSlice (ps := [(0, _)]) (rows := [[int x13, int 0, int 0, int 0, int 0, int 0, int 0, int 0, .sc (.slice none 0 0)]]) rfl Try.underlying22 bz28 (.cons rfl .nil) (by kernel_rfl) rfl rfl rfl) ?_
  obtain ⟨x374, e374, h2⟩ := bnd_e h2
  obtain ⟨p375, h2⟩ := asrt_e h2
  refine rse rfl rfl rfl (yl_appT (g := GOp.av) (l := y1_4) (m := [(⟨x13, 0, 0, 0, 0, 0, 0, 0, []⟩ : GOp)]) .any rfl Try.underlying22 bz28 by28 rfl rfl rfl rfl rfl rfl rfl rfl rfl rfl (Eq.symm rfl) (CvLL.list (.cons (.cons (.refl _) (.cons (.refl _) (.cons (.refl _) (.cons (.refl _) (.cons (.refl _) (.cons (.refl _) (.cons (.refl _) (.cons (.refl _) (.cons (.nil _) .nil))))))))) .nil)) (fun _ => rfl) e374 p375) ?_; rintro _ _ ⟨v376, -, rfl, rfl⟩
  refine tr tbk 3 (.mk ?_)
  exact lf h2 v376 leA
  rintro ⟨y4_2, y4_3⟩ w4_1 h1
  replace h1 := p2_e h1
  refine tc tbk 1 (.mk ?_)
  refine ni tbk h1 fun x377 h1 => ?_
  refine tr tbk 2 (.mk ?_)
  exact bk (x377, y4_2, y4_3) w4_1 h1 leA
  rintro ⟨y6_2, y6_3⟩ w6_1 h0
  replace h0 := p2_e h0
  refine tc tbk 2 (.mk ?_)
  refine jn h0 [2, 3, 5] [4] (fun (a : Bool) (k : Unit) => [(57, boo a)]) (fun a k => []) ⟨fun j378 h1 => ?_, ?_⟩
  refine tc tbk 2 (.mk ?_)
  refine sY (yv_callR rfl rfl (.cons rfl .nil) cal32 (badP_c (s := ((y6_2.s, y6_2.bad) : RS)) (id := 1) (ver := w0_1) rfl) (.sc _)) ?_
  refine tr tbk 1 (.mk ?_)
  obtain ⟨x379, e379, h1⟩ := bnd_e h1
  refine rsas 52 (boo x379) rfl (congrArg boo e379) ?_
  refine rsas 53 (boo x379) rfl (congrArg boo e379) ?_
  cases x379
  replace h1 := cf h1
  refine tr tbk 1 (.mk ?_)
  refine sY (yv_callR rfl rfl (.cons rfl .nil) cal33 (leftP_c (s := ((y6_2.s, y6_2.bad) : RS)) (id := 1) (ver := w0_1) rfl) (.sc _)) ?_
  refine nb tbk h1 fun x380 h1 => ?_
  refine tr tbk 2 (.mk ?_)
  exact lf h1 () leA
  replace h1 := ct h1
  refine tr tbk 5 (.mk ?_)
  exact lf h1 () leA
  rintro y7_1 _ h0
  replace h0 := asrt_e h0
  obtain ⟨rfl, h0⟩ := h0
  refine tc tbk 8 (.mk ?_)
  obtain rfl := nxt_e h0
  refine wR hret (rT (rT .nil)) ?_
  exact CvL.tup (.cons (cv_lst rfl rfl rfl rfl rfl (Eq.symm rfl)) (.cons (.refl _) .nil))
def d_slices_Equal_int_int_L0 (a1 : List Int) (a2 : List Int) : Nat → Int → Option ((Unit) ⊕ (Bool))
  | 0, _ => none
  | n + 1, y0_1 =>
    bnd (decide (y0_1 < (a1.length : Int))) fun x5 =>
    cond x5 ((ix a1 y0_1).bind fun x6 =>
    (ix a2 y0_1).bind fun x7 =>
    bnd (decide (x6 ≠ x7)) fun x8 =>
    cond x8 (esc (some ((false : Bool)))) (bnd (w64 (y0_1 + 1)) fun x9 =>
    d_slices_Equal_int_int_L0 a1 a2 n (x9 : Int))) (brk ())
def d_slices_Equal_int_int (n : Nat) (a1 : List Int) (a2 : List Int) : Option (Bool) :=
bnd (decide ((a1.length : Int) ≠ (a2.length : Int))) fun x3 =>
cond x3 (some ((false : Bool))) ((show Option ((Unit) ⊕ (Bool)) from
d_slices_Equal_int_int_L0 a1 a2 n (0 : Int)).bind <| sel <| fun _ =>
some ((true : Bool)))
theorem d_slices_Equal_int_int_c {n : Nat} {a1 : List Int} {a2 : List Int} {r : Bool} (h0 : d_slices_Equal_int_int n a1 a2 = some r) : PP Try.prog 55 [lst 1 fI a1, lst 1 fI a2] (fun y => y = boo r) := by
  unfold d_slices_Equal_int_int at h0
  refine pp_of_pc (R0 := fun y H => Cv (frzH H) y (boo r)) ?_ (fun y H hc => ⟨_, rfl, pvB r, hc⟩)
  refine pcw (c := _) Try.func55 rfl rfl ?_; intro Q hret hnorm
  refine tc tbk 8 (.mk ?_)
  refine sY (yv_len_sl rfl Try.underlying26 rfl (lst_len _)) ?_
  refine tr tbk 1 (.mk ?_)
  refine sY (yv_len_sl rfl Try.underlying26 rfl (lst_len _)) ?_
  refine nb tbk h0 fun x3 h0 => ?_
  refine tr tbk 1 (.mk ?_)
  cases x3
  replace h0 := cf h0
  refine tc tbk 6 (.mk ?_)
  refine sY (yv_len_sl rfl Try.underlying26 rfl (lst_len _)) ?_
  refine tr tbk 2 (.mk ?_)
  refine jnE h0 [4] [] (fun (a : Unit) (k : Unit) => []) (fun a k => []) ⟨fun j4 h1 h0 => ?_, ?_⟩
  refine tc tbk 1 (.mk ?_)
  refine lp (fun n (a : Int) => d_slices_Equal_int_int_L0 a1 a2 n a) (0 : Int) () h1 [0, 1, 4, 12] [] (fun (a : Int) (k : Unit) => [(13, int a)]) (fun a k => []) (fun _ => rfl) ⟨leA, ?_⟩
  rintro n y0_1 _ hm h1
  replace h1 : d_slices_Equal_int_int_L0 a1 a2 (n + 1) y0_1 = some _ := h1
  rw [d_slices_Equal_int_int_L0] at h1
  refine tc tbk 2 (.mk ?_)
  refine nb tbk h1 fun x5 h1 => ?_
  refine tr tbk 2 (.mk ?_)
  cases x5
  replace h1 := cf h1
  refine tc tbk 2 (.mk ?_)
  exact lfE h1 () leA
  replace h1 := ct h1
  refine tc tbk 10 (.mk ?_)
  refine c_drawE [0, 0, 3, 7, 0, 0, 48, 112, 255] (fun i => []) (fun i => []) (fun i => true) [0, 1, 2, 3, 4, 5, 6, 7, 8] mixed (by kernel_rfl) ?_; intro K hK
  iterate 2 refine eM ?_
  obtain ⟨x6, e6, h1⟩ := bind_e h1
  refine eP (fun H hH => yv_ixT rfl Try.underlying26 sh3 rfl rfl e6) ?_
  refine eP (fun H hH => yv_load rfl sh3 rfl (.pp _) rfl) ?_
  iterate 2 refine eM ?_
  obtain ⟨x7, e7, h1⟩ := bind_e h1
  refine eP (fun H hH => yv_ixT rfl Try.underlying26 sh3 rfl rfl e7) ?_
  refine eP (fun H hH => yv_load rfl sh3 rfl (.pp _) rfl) ?_
  obtain ⟨x8, e8, h1⟩ := bnd_e h1
  refine eP (fun H hH => yv_to (y := boo x8) (yv_neq rfl rfl rfl) (congrArg boo e8)) ?_
  refine de_nil (hK _ ?_)
  cases x8
  replace h1 := cf h1
  refine tc tbk 4 (.mk ?_)
  refine ni tbk h1 fun x9 h1 => ?_
  refine tr tbk 2 (.mk ?_)
  exact bk x9 () h1 leA
  replace h1 := ct h1
  refine tc tbk 5 (.mk ?_)
  obtain ⟨c10, hX, hj⟩ := esc_e h1; subst hj; replace h0 := hX.trans (sel_r h0)
  obtain rfl := nxt_e h0
  refine wR hret (rT .nil) ?_
  exact .refl _
  rintro _ _ h0
  refine tc tbk 4 (.mk ?_)
  obtain rfl := nxt_e h0
  refine wR hret (rT .nil) ?_
  exact .refl _
  replace h0 := ct h0
  refine tc tbk 5 (.mk ?_)
  obtain rfl := nxt_e h0
  refine wR hret (rT .nil) ?_
  exact .refl _
def d_ops_same (n : Nat) (a1 : GOp) (a2 : GOp) : Option (Bool) :=
(show Option ((Unit)) from
some ()).bind <| fun _ =>
(show Option ((Unit)) from
some ()).bind <| fun _ =>
bnd (decide (a1.E ≠ a2.E)) fun x8 =>
asrt (x8 = false) <|
(show Option ((Unit)) from
some ()).bind <| fun _ =>
(show Option ((Unit)) from
some ()).bind <| fun _ =>
bnd (decide (a1.Item ≠ a2.Item)) fun x11 =>
asrt (x11 = false) <|
(show Option ((Unit)) from
some ()).bind <| fun _ =>
(show Option ((Unit)) from
some ()).bind <| fun _ =>
bnd (decide (a1.Loc ≠ a2.Loc)) fun x14 =>
asrt (x14 = false) <|
(show Option ((Unit)) from
some ()).bind <| fun _ =>
(show Option ((Unit)) from
some ()).bind <| fun _ =>
bnd (decide (a1.To ≠ a2.To)) fun x17 =>
asrt (x17 = false) <|
(show Option ((Unit)) from
some ()).bind <| fun _ =>
(show Option ((Unit)) from
some ()).bind <| fun _ =>
bnd (decide (a1.Qty ≠ a2.Qty)) fun x20 =>
asrt (x20 = false) <|
(show Option ((Unit)) from
some ()).bind <| fun _ =>
(show Option ((Unit)) from
some ()).bind <| fun _ =>
bnd (decide (a1.Amount ≠ a2.Amount)) fun x23 =>
asrt (x23 = false) <|
(show Option ((Unit)) from
some ()).bind <| fun _ =>
(show Option ((Unit)) from
some ()).bind <| fun _ =>
bnd (decide (a1.Ref ≠ a2.Ref)) fun x26 =>
asrt (x26 = false) <|
(show Option (Bool) from
bnd (decide (a1.Kind = a2.Kind)) fun x28 =>
cond x28 ((d_slices_Equal_int_int n a1.Refs a2.Refs).bind fun x29 =>
some (x29 : Bool)) (some (false : Bool))).bind <| fun y4_1 =>
some ((y4_1 : Bool))
theorem d_ops_same_c {n : Nat} {a1 : GOp} {a2 : GOp} {r : Bool} (h0 : d_ops_same n a1 a2 = some r) : PP Try.prog 38 [.agg (GOp.av a1), .agg (GOp.av a2)] (fun y => y = boo r) := by
  unfold d_ops_same at h0
  refine pp_of_pc (R0 := fun y H => Cv (frzH H) y (boo r)) ?_ (fun y H hc => ⟨_, rfl, pvB r, hc⟩)
  refine pcw (c := _) Try.func38 rfl rfl ?_; intro Q hret hnorm
  refine tc tbk 2 (.mk ?_)
  refine sB 1 fun v3 => ?_
  refine sB 2 fun v4 => ?_
  refine tr tbk 3 (.mk ?_)
  refine w_range rfl rfl rfl rfl rfl rfl rfl rfl ?_
  refine rgi_end rfl rfl rfl rfl Try.underlying9 rfl fun b5 => ⟨rfl, ?_⟩
  refine tc tbk 11 (.mk ?_)
  refine c_drawE [0, 1, 3, 7, 0, 19, 51, 115, 255] (rl [(2, [1]), (3, [1]), (6, [2]), (7, [2])] []) (rl [(1, []), (5, [1])] [1, 2]) (rl [(1, false), (5, false)] true) [0, 4, 1, 2, 3, 5, 6, 7, 8] mixed (by kernel_rfl) ?_; intro K hK
  iterate 2 refine eM ?_
  obtain ⟨j6, h1, h0⟩ := bind_e h0
  refine de_eff (Out := fun y H' => (∃ (a : Unit) (k : Unit), a = j6 ∧ y = .pt 1 v3 0 1 ∧ H' = hk [(1, ⟨28, 9, true, true, v3, [[int a1.Kind, int a1.E, int a1.Item, int a1.Loc, int a1.To, int a1.Qty, int a1.Amount, int a1.Ref, lst 1 fI a1.Refs]]⟩), (2, ⟨28, 9, true, true, v4, [[int a2.Kind, int a2.E, int a2.Item, int a2.Loc, int a2.To, int a2.Qty, int a2.Amount, int a2.Ref, lst 1 fI a2.Refs]]⟩)])) rfl rfl rfl rfl (yl_call rfl rfl (.cons rfl (.cons rfl .nil)) cal23 ?_) (by rintro y _ ⟨_, _, rfl, hc, rfl⟩ <;> exact trivial) ?_
  refine pcw (c := _) Try.func23 rfl rfl ?_; intro Q hret hnorm
  refine tc tbk 12 (.mk ?_)
  refine sY (yv_to (y := boo true) (yv_eql rfl rfl rfl) (congrArg boo (by decide))) ?_
  refine tr tbk 10 (.mk ?_)
  obtain rfl := nxt_e h1
  refine w_ret (hret _ _ (hk [(1, ⟨28, 9, true, true, v3, [[int a1.Kind, int a1.E, int a1.Item, int a1.Loc, int a1.To, int a1.Qty, int a1.Amount, int a1.Ref, lst 1 fI a1.Refs]]⟩), (2, ⟨28, 9, true, true, v4, [[int a2.Kind, int a2.E, int a2.Item, int a2.Loc, int a2.To, int a2.Qty, int a2.Amount, int a2.Ref, lst 1 fI a2.Refs]]⟩)]) (.tmp rfl .nil) (HK.le ⟨rfl, rfl, trivial⟩) ?_)
  exact ⟨(), (), rfl, rfl, rfl⟩
  rintro y _ ⟨_, _, rfl, hc, rfl⟩
  subst hc
  refine eN ?_
  refine eL sh3 ?_
  obtain ⟨j7, h1, h0⟩ := bind_e h0
  refine de_eff (Out := fun y H' => (∃ (a : Unit) (k : Unit), a = j7 ∧ y = .pt 2 v4 0 1 ∧ H' = hk [(1, ⟨28, 9, true, true, v3, [[int a1.Kind, int a1.E, int a1.Item, int a1.Loc, int a1.To, int a1.Qty, int a1.Amount, int a1.Ref, lst 1 fI a1.Refs]]⟩), (2, ⟨28, 9, true, true, v4, [[int a2.Kind, int a2.E, int a2.Item, int a2.Loc, int a2.To, int a2.Qty, int a2.Amount, int a2.Ref, lst 1 fI a2.Refs]]⟩)])) rfl rfl rfl rfl (yl_call rfl rfl (.cons rfl (.cons rfl .nil)) cal23 ?_) (by rintro y _ ⟨_, _, rfl, hc, rfl⟩ <;> exact ⟨rfl, trivial⟩) ?_
  refine pcw (c := _) Try.func23 rfl rfl ?_; intro Q hret hnorm
  refine tc tbk 12 (.mk ?_)
  refine sY (yv_to (y := boo true) (yv_eql rfl rfl rfl) (congrArg boo (by decide))) ?_
  refine tr tbk 10 (.mk ?_)
  obtain rfl := nxt_e h1
  refine w_ret (hret _ _ (hk [(1, ⟨28, 9, true, true, v3, [[int a1.Kind, int a1.E, int a1.Item, int a1.Loc, int a1.To, int a1.Qty, int a1.Amount, int a1.Ref, lst 1 fI a1.Refs]]⟩), (2, ⟨28, 9, true, true, v4, [[int a2.Kind, int a2.E, int a2.Item, int a2.Loc, int a2.To, int a2.Qty, int a2.Amount, int a2.Ref, lst 1 fI a2.Refs]]⟩)]) (.tmp rfl .nil) (HK.le ⟨rfl, rfl, trivial⟩) ?_)
  exact ⟨(), (), rfl, rfl, rfl⟩
  rintro y _ ⟨_, _, rfl, hc, rfl⟩
  subst hc
  refine eN ?_
  refine eL sh3 ?_
  obtain ⟨x8, e8, h0⟩ := bnd_e h0
  refine eP (fun H hH => yv_to (y := boo x8) (yv_neq rfl rfl rfl) (congrArg boo e8)) ?_
  refine de_nil (hK _ ?_)
  replace h0 := asrt_e h0
  obtain ⟨rfl, h0⟩ := h0
  refine tc tbk 14 (.mk ?_)
  refine c_drawE [0, 1, 3, 7, 0, 19, 51, 115, 255] (rl [(2, [1]), (3, [1]), (6, [2]), (7, [2])] []) (rl [(1, []), (5, [1])] [1, 2]) (rl [(1, false), (5, false)] true) [0, 4, 1, 2, 3, 5, 6, 7, 8] mixed (by kernel_rfl) ?_; intro K hK
  iterate 2 refine eM ?_
  obtain ⟨j9, h1, h0⟩ := bind_e h0
  refine de_eff (Out := fun y H' => (∃ (a : Unit) (k : Unit), a = j9 ∧ y = .pt 1 v3 0 2 ∧ H' = hk [(1, ⟨28, 9, true, true, v3, [[int a1.Kind, int a1.E, int a1.Item, int a1.Loc, int a1.To, int a1.Qty, int a1.Amount, int a1.Ref, lst 1 fI a1.Refs]]⟩), (2, ⟨28, 9, true, true, v4, [[int a2.Kind, int a2.E, int a2.Item, int a2.Loc, int a2.To, int a2.Qty, int a2.Amount, int a2.Ref, lst 1 fI a2.Refs]]⟩)])) rfl rfl rfl rfl (yl_call rfl rfl (.cons rfl (.cons rfl .nil)) cal23 ?_) (by rintro y _ ⟨_, _, rfl, hc, rfl⟩ <;> exact trivial) ?_
  refine pcw (c := _) Try.func23 rfl rfl ?_; intro Q hret hnorm
  refine tc tbk 12 (.mk ?_)
  refine sY (yv_to (y := boo false) (yv_eql rfl rfl rfl) (congrArg boo (by decide))) ?_
  refine tr tbk 5 (.mk ?_)
  refine sY (yv_to (y := boo true) (yv_eql rfl rfl rfl) (congrArg boo (by decide))) ?_
  refine tr tbk 10 (.mk ?_)
  obtain rfl := nxt_e h1
  refine w_ret (hret _ _ (hk [(1, ⟨28, 9, true, true, v3, [[int a1.Kind, int a1.E, int a1.Item, int a1.Loc, int a1.To, int a1.Qty, int a1.Amount, int a1.Ref, lst 1 fI a1.Refs]]⟩), (2, ⟨28, 9, true, true, v4, [[int a2.Kind, int a2.E, int a2.Item, int a2.Loc, int a2.To, int a2.Qty, int a2.Amount, int a2.Ref, lst 1 fI a2.Refs]]⟩)]) (.tmp rfl .nil) (HK.le ⟨rfl, rfl, trivial⟩) ?_)
  exact ⟨(), (), rfl, rfl, rfl⟩
  rintro y _ ⟨_, _, rfl, hc, rfl⟩
  subst hc
  refine eN ?_
  refine eL sh3 ?_
  obtain ⟨j10, h1, h0⟩ := bind_e h0
  refine de_eff (Out := fun y H' => (∃ (a : Unit) (k : Unit), a = j10 ∧ y = .pt 2 v4 0 2 ∧ H' = hk [(1, ⟨28, 9, true, true, v3, [[int a1.Kind, int a1.E, int a1.Item, int a1.Loc, int a1.To, int a1.Qty, int a1.Amount, int a1.Ref, lst 1 fI a1.Refs]]⟩), (2, ⟨28, 9, true, true, v4, [[int a2.Kind, int a2.E, int a2.Item, int a2.Loc, int a2.To, int a2.Qty, int a2.Amount, int a2.Ref, lst 1 fI a2.Refs]]⟩)])) rfl rfl rfl rfl (yl_call rfl rfl (.cons rfl (.cons rfl .nil)) cal23 ?_) (by rintro y _ ⟨_, _, rfl, hc, rfl⟩ <;> exact ⟨rfl, trivial⟩) ?_
  refine pcw (c := _) Try.func23 rfl rfl ?_; intro Q hret hnorm
  refine tc tbk 12 (.mk ?_)
  refine sY (yv_to (y := boo false) (yv_eql rfl rfl rfl) (congrArg boo (by decide))) ?_
  refine tr tbk 5 (.mk ?_)
  refine sY (yv_to (y := boo true) (yv_eql rfl rfl rfl) (congrArg boo (by decide))) ?_
  refine tr tbk 10 (.mk ?_)
  obtain rfl := nxt_e h1
  refine w_ret (hret _ _ (hk [(1, ⟨28, 9, true, true, v3, [[int a1.Kind, int a1.E, int a1.Item, int a1.Loc, int a1.To, int a1.Qty, int a1.Amount, int a1.Ref, lst 1 fI a1.Refs]]⟩), (2, ⟨28, 9, true, true, v4, [[int a2.Kind, int a2.E, int a2.Item, int a2.Loc, int a2.To, int a2.Qty, int a2.Amount, int a2.Ref, lst 1 fI a2.Refs]]⟩)]) (.tmp rfl .nil) (HK.le ⟨rfl, rfl, trivial⟩) ?_)
  exact ⟨(), (), rfl, rfl, rfl⟩
  rintro y _ ⟨_, _, rfl, hc, rfl⟩
  subst hc
  refine eN ?_
  refine eL sh3 ?_
  obtain ⟨x11, e11, h0⟩ := bnd_e h0
  refine eP (fun H hH => yv_to (y := boo x11) (yv_neq rfl rfl rfl) (congrArg boo e11)) ?_
  refine de_nil (hK _ ?_)
  replace h0 := asrt_e h0
  obtain ⟨rfl, h0⟩ := h0
  refine tc tbk 14 (.mk ?_)
  refine c_drawE [0, 1, 3, 7, 0, 19, 51, 115, 255] (rl [(2, [1]), (3, [1]), (6, [2]), (7, [2])] []) (rl [(1, []), (5, [1])] [1, 2]) (rl [(1, false), (5, false)] true) [0, 4, 1, 2, 3, 5, 6, 7, 8] mixed (by kernel_rfl) ?_; intro K hK
  iterate 2 refine eM ?_
  obtain ⟨j12, h1, h0⟩ := bind_e h0
  refine de_eff (Out := fun y H' => (∃ (a : Unit) (k : Unit), a = j12 ∧ y = .pt 1 v3 0 3 ∧ H' = hk [(1, ⟨28, 9, true, true, v3, [[int a1.Kind, int a1.E, int a1.Item, int a1.Loc, int a1.To, int a1.Qty, int a1.Amount, int a1.Ref, lst 1 fI a1.Refs]]⟩), (2, ⟨28, 9, true, true, v4, [[int a2.Kind, int a2.E, int a2.Item, int a2.Loc, int a2.To, int a2.Qty, int a2.Amount, int a2.Ref, lst 1 fI a2.Refs]]⟩)])) rfl rfl rfl rfl (yl_call rfl rfl (.cons rfl (.cons rfl .nil)) cal23 ?_) (by rintro y _ ⟨_, _, rfl, hc, rfl⟩ <;> exact trivial) ?_
  refine pcw (c := _) Try.func23 rfl rfl ?_; intro Q hret hnorm
  refine tc tbk 12 (.mk ?_)
  refine sY (yv_to (y := boo false) (yv_eql rfl rfl rfl) (congrArg boo (by decide))) ?_
  refine tr tbk 5 (.mk ?_)
  refine sY (yv_to (y := boo false) (yv_eql rfl rfl rfl) (congrArg boo (by decide))) ?_
  refine tr tbk 5 (.mk ?_)
  refine sY (yv_to (y := boo true) (yv_eql rfl rfl rfl) (congrArg boo (by decide))) ?_
  refine tr tbk 10 (.mk ?_)
  obtain rfl := nxt_e h1
  refine w_ret (hret _ _ (hk [(1, ⟨28, 9, true, true, v3, [[int a1.Kind, int a1.E, int a1.Item, int a1.Loc, int a1.To, int a1.Qty, int a1.Amount, int a1.Ref, lst 1 fI a1.Refs]]⟩), (2, ⟨28, 9, true, true, v4, [[int a2.Kind, int a2.E, int a2.Item, int a2.Loc, int a2.To, int a2.Qty, int a2.Amount, int a2.Ref, lst 1 fI a2.Refs]]⟩)]) (.tmp rfl .nil) (HK.le ⟨rfl, rfl, trivial⟩) ?_)
  exact ⟨(), (), rfl, rfl, rfl⟩
  rintro y _ ⟨_, _, rfl, hc, rfl⟩
  subst hc
  refine eN ?_
  refine eL sh3 ?_
  obtain ⟨j13, h1, h0⟩ := bind_e h0
  refine de_eff (Out := fun y H' => (∃ (a : Unit) (k : Unit), a = j13 ∧ y = .pt 2 v4 0 3 ∧ H' = hk [(1, ⟨28, 9, true, true, v3, [[int a1.Kind, int a1.E, int a1.Item, int a1.Loc, int a1.To, int a1.Qty, int a1.Amount, int a1.Ref, lst 1 fI a1.Refs]]⟩), (2, ⟨28, 9, true, true, v4, [[int a2.Kind, int a2.E, int a2.Item, int a2.Loc, int a2.To, int a2.Qty, int a2.Amount, int a2.Ref, lst 1 fI a2.Refs]]⟩)])) rfl rfl rfl rfl (yl_call rfl rfl (.cons rfl (.cons rfl .nil)) cal23 ?_) (by rintro y _ ⟨_, _, rfl, hc, rfl⟩ <;> exact ⟨rfl, trivial⟩) ?_
  refine pcw (c := _) Try.func23 rfl rfl ?_; intro Q hret hnorm
  refine tc tbk 12 (.mk ?_)
  refine sY (yv_to (y := boo false) (yv_eql rfl rfl rfl) (congrArg boo (by decide))) ?_
  refine tr tbk 5 (.mk ?_)
  refine sY (yv_to (y := boo false) (yv_eql rfl rfl rfl) (congrArg boo (by decide))) ?_
  refine tr tbk 5 (.mk ?_)
  refine sY (yv_to (y := boo true) (yv_eql rfl rfl rfl) (congrArg boo (by decide))) ?_
  refine tr tbk 10 (.mk ?_)
  obtain rfl := nxt_e h1
  refine w_ret (hret _ _ (hk [(1, ⟨28, 9, true, true, v3, [[int a1.Kind, int a1.E, int a1.Item, int a1.Loc, int a1.To, int a1.Qty, int a1.Amount, int a1.Ref, lst 1 fI a1.Refs]]⟩), (2, ⟨28, 9, true, true, v4, [[int a2.Kind, int a2.E, int a2.Item, int a2.Loc, int a2.To, int a2.Qty, int a2.Amount, int a2.Ref, lst 1 fI a2.Refs]]⟩)]) (.tmp rfl .nil) (HK.le ⟨rfl, rfl, trivial⟩) ?_)
  exact ⟨(), (), rfl, rfl, rfl⟩
  rintro y _ ⟨_, _, rfl, hc, rfl⟩
  subst hc
  refine eN ?_
  refine eL sh3 ?_
  obtain ⟨x14, e14, h0⟩ := bnd_e h0
  refine eP (fun H hH => yv_to (y := boo x14) (yv_neq rfl rfl rfl) (congrArg boo e14)) ?_
  refine de_nil (hK _ ?_)
  replace h0 := asrt_e h0
  obtain ⟨rfl, h0⟩ := h0
  refine tc tbk 14 (.mk ?_)
  refine c_drawE [0, 1, 3, 7, 0, 19, 51, 115, 255] (rl [(2, [1]), (3, [1]), (6, [2]), (7, [2])] []) (rl [(1, []), (5, [1])] [1, 2]) (rl [(1, false), (5, false)] true) [0, 4, 1, 2, 3, 5, 6, 7, 8] mixed (by kernel_rfl) ?_; intro K hK
  iterate 2 refine eM ?_
  obtain ⟨j15, h1, h0⟩ := bind_e h0
  refine de_eff (Out := fun y H' => (∃ (a : Unit) (k : Unit), a = j15 ∧ y = .pt 1 v3 0 4 ∧ H' = hk [(1, ⟨28, 9, true, true, v3, [[int a1.Kind, int a1.E, int a1.Item, int a1.Loc, int a1.To, int a1.Qty, int a1.Amount, int a1.Ref, lst 1 fI a1.Refs]]⟩), (2, ⟨28, 9, true, true, v4, [[int a2.Kind, int a2.E, int a2.Item, int a2.Loc, int a2.To, int a2.Qty, int a2.Amount, int a2.Ref, lst 1 fI a2.Refs]]⟩)])) rfl rfl rfl rfl (yl_call rfl rfl (.cons rfl (.cons rfl .nil)) cal23 ?_) (by rintro y _ ⟨_, _, rfl, hc, rfl⟩ <;> exact trivial) ?_
  refine pcw (c := _) Try.func23 rfl rfl ?_; intro Q hret hnorm
  refine tc tbk 12 (.mk ?_)
  refine sY (yv_to (y := boo false) (yv_eql rfl rfl rfl) (congrArg boo (by decide))) ?_
  refine tr tbk 5 (.mk ?_)
  refine sY (yv_to (y := boo false) (yv_eql rfl rfl rfl) (congrArg boo (by decide))) ?_
  refine tr tbk 5 (.mk ?_)
  refine sY (yv_to (y := boo false) (yv_eql rfl rfl rfl) (congrArg boo (by decide))) ?_
  refine tr tbk 5 (.mk ?_)
  refine sY (yv_to (y := boo true) (yv_eql rfl rfl rfl) (congrArg boo (by decide))) ?_
  refine tr tbk 10 (.mk ?_)
  obtain rfl := nxt_e h1
  refine w_ret (hret _ _ (hk [(1, ⟨28, 9, true, true, v3, [[int a1.Kind, int a1.E, int a1.Item, int a1.Loc, int a1.To, int a1.Qty, int a1.Amount, int a1.Ref, lst 1 fI a1.Refs]]⟩), (2, ⟨28, 9, true, true, v4, [[int a2.Kind, int a2.E, int a2.Item, int a2.Loc, int a2.To, int a2.Qty, int a2.Amount, int a2.Ref, lst 1 fI a2.Refs]]⟩)]) (.tmp rfl .nil) (HK.le ⟨rfl, rfl, trivial⟩) ?_)
  exact ⟨(), (), rfl, rfl, rfl⟩
  rintro y _ ⟨_, _, rfl, hc, rfl⟩
  subst hc
  refine eN ?_
  refine eL sh3 ?_
  obtain ⟨j16, h1, h0⟩ := bind_e h0
  refine de_eff (Out := fun y H' => (∃ (a : Unit) (k : Unit), a = j16 ∧ y = .pt 2 v4 0 4 ∧ H' = hk [(1, ⟨28, 9, true, true, v3, [[int a1.Kind, int a1.E, int a1.Item, int a1.Loc, int a1.To, int a1.Qty, int a1.Amount, int a1.Ref, lst 1 fI a1.Refs]]⟩), (2, ⟨28, 9, true, true, v4, [[int a2.Kind, int a2.E, int a2.Item, int a2.Loc, int a2.To, int a2.Qty, int a2.Amount, int a2.Ref, lst 1 fI a2.Refs]]⟩)])) rfl rfl rfl rfl (yl_call rfl rfl (.cons rfl (.cons rfl .nil)) cal23 ?_) (by rintro y _ ⟨_, _, rfl, hc, rfl⟩ <;> exact ⟨rfl, trivial⟩) ?_
  refine pcw (c := _) Try.func23 rfl rfl ?_; intro Q hret hnorm
  refine tc tbk 12 (.mk ?_)
  refine sY (yv_to (y := boo false) (yv_eql rfl rfl rfl) (congrArg boo (by decide))) ?_
  refine tr tbk 5 (.mk ?_)
  refine sY (yv_to (y := boo false) (yv_eql rfl rfl rfl) (congrArg boo (by decide))) ?_
  refine tr tbk 5 (.mk ?_)
  refine sY (yv_to (y := boo false) (yv_eql rfl rfl rfl) (congrArg boo (by decide))) ?_
  refine tr tbk 5 (.mk ?_)
  refine sY (yv_to (y := boo true) (yv_eql rfl rfl rfl) (congrArg boo (by decide))) ?_
  refine tr tbk 10 (.mk ?_)
  obtain rfl := nxt_e h1
  refine w_ret (hret _ _ (hk [(1, ⟨28, 9, true, true, v3, [[int a1.Kind, int a1.E, int a1.Item, int a1.Loc, int a1.To, int a1.Qty, int a1.Amount, int a1.Ref, lst 1 fI a1.Refs]]⟩), (2, ⟨28, 9, true, true, v4, [[int a2.Kind, int a2.E, int a2.Item, int a2.Loc, int a2.To, int a2.Qty, int a2.Amount, int a2.Ref, lst 1 fI a2.Refs]]⟩)]) (.tmp rfl .nil) (HK.le ⟨rfl, rfl, trivial⟩) ?_)
  exact ⟨(), (), rfl, rfl, rfl⟩
  rintro y _ ⟨_, _, rfl, hc, rfl⟩
  subst hc
  refine eN ?_
  refine eL sh3 ?_
  obtain ⟨x17, e17, h0⟩ := bnd_e h0
  refine eP (fun H hH => yv_to (y := boo x17) (yv_neq rfl rfl rfl) (congrArg boo e17)) ?_
  refine de_nil (hK _ ?_)
  replace h0 := asrt_e h0
  obtain ⟨rfl, h0⟩ := h0
  refine tc tbk 14 (.mk ?_)
  refine c_drawE [0, 1, 3, 7, 0, 19, 51, 115, 255] (rl [(2, [1]), (3, [1]), (6, [2]), (7, [2])] []) (rl [(1, []), (5, [1])] [1, 2]) (rl [(1, false), (5, false)] true) [0, 4, 1, 2, 3, 5, 6, 7, 8] mixed (by kernel_rfl) ?_; intro K hK
  iterate 2 refine eM ?_
  obtain ⟨j18, h1, h0⟩ := bind_e h0
  refine de_eff (Out := fun y H' => (∃ (a : Unit) (k : Unit), a = j18 ∧ y = .pt 1 v3 0 5 ∧ H' = hk [(1, ⟨28, 9, true, true, v3, [[int a1.Kind, int a1.E, int a1.Item, int a1.Loc, int a1.To, int a1.Qty, int a1.Amount, int a1.Ref, lst 1 fI a1.Refs]]⟩), (2, ⟨28, 9, true, true, v4, [[int a2.Kind, int a2.E, int a2.Item, int a2.Loc, int a2.To, int a2.Qty, int a2.Amount, int a2.Ref, lst 1 fI a2.Refs]]⟩)])) rfl rfl rfl rfl (yl_call rfl rfl (.cons rfl (.cons rfl .nil)) cal23 ?_) (by rintro y _ ⟨_, _, rfl, hc, rfl⟩ <;> exact trivial) ?_
  refine pcw (c := _) Try.func23 rfl rfl ?_; intro Q hret hnorm
  refine tc tbk 12 (.mk ?_)
  refine sY (yv_to (y := boo false) (yv_eql rfl rfl rfl) (congrArg boo (by decide))) ?_
  refine tr tbk 5 (.mk ?_)
  refine sY (yv_to (y := boo false) (yv_eql rfl rfl rfl) (congrArg boo (by decide))) ?_
  refine tr tbk 5 (.mk ?_)
  refine sY (yv_to (y := boo false) (yv_eql rfl rfl rfl) (congrArg boo (by decide))) ?_
  refine tr tbk 5 (.mk ?_)
  refine sY (yv_to (y := boo false) (yv_eql rfl rfl rfl) (congrArg boo (by decide))) ?_
  refine tr tbk 5 (.mk ?_)
  refine sY (yv_to (y := boo true) (yv_eql rfl rfl rfl) (congrArg boo (by decide))) ?_
  refine tr tbk 10 (.mk ?_)
  obtain rfl := nxt_e h1
  refine w_ret (hret _ _ (hk [(1, ⟨28, 9, true, true, v3, [[int a1.Kind, int a1.E, int a1.Item, int a1.Loc, int a1.To, int a1.Qty, int a1.Amount, int a1.Ref, lst 1 fI a1.Refs]]⟩), (2, ⟨28, 9, true, true, v4, [[int a2.Kind, int a2.E, int a2.Item, int a2.Loc, int a2.To, int a2.Qty, int a2.Amount, int a2.Ref, lst 1 fI a2.Refs]]⟩)]) (.tmp rfl .nil) (HK.le ⟨rfl, rfl, trivial⟩) ?_)
  exact ⟨(), (), rfl, rfl, rfl⟩
  rintro y _ ⟨_, _, rfl, hc, rfl⟩
  subst hc
  refine eN ?_
  refine eL sh3 ?_
  obtain ⟨j19, h1, h0⟩ := bind_e h0
  refine de_eff (Out := fun y H' => (∃ (a : Unit) (k : Unit), a = j19 ∧ y = .pt 2 v4 0 5 ∧ H' = hk [(1, ⟨28, 9, true, true, v3, [[int a1.Kind, int a1.E, int a1.Item, int a1.Loc, int a1.To, int a1.Qty, int a1.Amount, int a1.Ref, lst 1 fI a1.Refs]]⟩), (2, ⟨28, 9, true, true, v4, [[int a2.Kind, int a2.E, int a2.Item, int a2.Loc, int a2.To, int a2.Qty, int a2.Amount, int a2.Ref, lst 1 fI a2.Refs]]⟩)])) rfl rfl rfl rfl (yl_call rfl rfl (.cons rfl (.cons rfl .nil)) cal23 ?_) (by rintro y _ ⟨_, _, rfl, hc, rfl⟩ <;> exact ⟨rfl, trivial⟩) ?_
  refine pcw (c := _) Try.func23 rfl rfl ?_; intro Q hret hnorm
  refine tc tbk 12 (.mk ?_)
  refine sY (yv_to (y := boo false) (yv_eql rfl rfl rfl) (congrArg boo (by decide))) ?_
  refine tr tbk 5 (.mk ?_)
  refine sY (yv_to (y := boo false) (yv_eql rfl rfl rfl) (congrArg boo (by decide))) ?_
  refine tr tbk 5 (.mk ?_)
  refine sY (yv_to (y := boo false) (yv_eql rfl rfl rfl) (congrArg boo (by decide))) ?_
  refine tr tbk 5 (.mk ?_)
  refine sY (yv_to (y := boo false) (yv_eql rfl rfl rfl) (congrArg boo (by decide))) ?_
  refine tr tbk 5 (.mk ?_)
  refine sY (yv_to (y := boo true) (yv_eql rfl rfl rfl) (congrArg boo (by decide))) ?_
  refine tr tbk 10 (.mk ?_)
  obtain rfl := nxt_e h1
  refine w_ret (hret _ _ (hk [(1, ⟨28, 9, true, true, v3, [[int a1.Kind, int a1.E, int a1.Item, int a1.Loc, int a1.To, int a1.Qty, int a1.Amount, int a1.Ref, lst 1 fI a1.Refs]]⟩), (2, ⟨28, 9, true, true, v4, [[int a2.Kind, int a2.E, int a2.Item, int a2.Loc, int a2.To, int a2.Qty, int a2.Amount, int a2.Ref, lst 1 fI a2.Refs]]⟩)]) (.tmp rfl .nil) (HK.le ⟨rfl, rfl, trivial⟩) ?_)
  exact ⟨(), (), rfl, rfl, rfl⟩
  rintro y _ ⟨_, _, rfl, hc, rfl⟩
  subst hc
  refine eN ?_
  refine eL sh3 ?_
  obtain ⟨x20, e20, h0⟩ := bnd_e h0
  refine eP (fun H hH => yv_to (y := boo x20) (yv_neq rfl rfl rfl) (congrArg boo e20)) ?_
  refine de_nil (hK _ ?_)
  replace h0 := asrt_e h0
  obtain ⟨rfl, h0⟩ := h0
  refine tc tbk 14 (.mk ?_)
  refine c_drawE [0, 1, 3, 7, 0, 19, 51, 115, 255] (rl [(2, [1]), (3, [1]), (6, [2]), (7, [2])] []) (rl [(1, []), (5, [1])] [1, 2]) (rl [(1, false), (5, false)] true) [0, 4, 1, 2, 3, 5, 6, 7, 8] mixed (by kernel_rfl) ?_; intro K hK
  iterate 2 refine eM ?_
  obtain ⟨j21, h1, h0⟩ := bind_e h0
  refine de_eff (Out := fun y H' => (∃ (a : Unit) (k : Unit), a = j21 ∧ y = .pt 1 v3 0 6 ∧ H' = hk [(1, ⟨28, 9, true, true, v3, [[int a1.Kind, int a1.E, int a1.Item, int a1.Loc, int a1.To, int a1.Qty, int a1.Amount, int a1.Ref, lst 1 fI a1.Refs]]⟩), (2, ⟨28, 9, true, true, v4, [[int a2.Kind, int a2.E, int a2.Item, int a2.Loc, int a2.To, int a2.Qty, int a2.Amount, int a2.Ref, lst 1 fI a2.Refs]]⟩)])) rfl rfl rfl rfl (yl_call rfl rfl (.cons rfl (.cons rfl .nil)) cal23 ?_) (by rintro y _ ⟨_, _, rfl, hc, rfl⟩ <;> exact trivial) ?_
  refine pcw (c := _) Try.func23 rfl rfl ?_; intro Q hret hnorm
  refine tc tbk 12 (.mk ?_)
  refine sY (yv_to (y := boo false) (yv_eql rfl rfl rfl) (congrArg boo (by decide))) ?_
  refine tr tbk 5 (.mk ?_)
  refine sY (yv_to (y := boo false) (yv_eql rfl rfl rfl) (congrArg boo (by decide))) ?_
  refine tr tbk 5 (.mk ?_)
  refine sY (yv_to (y := boo false) (yv_eql rfl rfl rfl) (congrArg boo (by decide))) ?_
  refine tr tbk 5 (.mk ?_)
  refine sY (yv_to (y := boo false) (yv_eql rfl rfl rfl) (congrArg boo (by decide))) ?_
  refine tr tbk 5 (.mk ?_)
  refine sY (yv_to (y := boo false) (yv_eql rfl rfl rfl) (congrArg boo (by decide))) ?_
  refine tr tbk 5 (.mk ?_)
  refine sY (yv_to (y := boo true) (yv_eql rfl rfl rfl) (congrArg boo (by decide))) ?_
  refine tr tbk 10 (.mk ?_)
  obtain rfl := nxt_e h1
  refine w_ret (hret _ _ (hk [(1, ⟨28, 9, true, true, v3, [[int a1.Kind, int a1.E, int a1.Item, int a1.Loc, int a1.To, int a1.Qty, int a1.Amount, int a1.Ref, lst 1 fI a1.Refs]]⟩), (2, ⟨28, 9, true, true, v4, [[int a2.Kind, int a2.E, int a2.Item, int a2.Loc, int a2.To, int a2.Qty, int a2.Amount, int a2.Ref, lst 1 fI a2.Refs]]⟩)]) (.tmp rfl .nil) (HK.le ⟨rfl, rfl, trivial⟩) ?_)
  exact ⟨(), (), rfl, rfl, rfl⟩
  rintro y _ ⟨_, _, rfl, hc, rfl⟩
  subst hc
  refine eN ?_
  refine eL sh3 ?_
  obtain ⟨j22, h1, h0⟩ := bind_e h0
  refine de_eff (Out := fun y H' => (∃ (a : Unit) (k : Unit), a = j22 ∧ y = .pt 2 v4 0 6 ∧ H' = hk [(1, ⟨28, 9, true, true, v3, [[int a1.Kind, int a1.E, int a1.Item, int a1.Loc, int a1.To, int a1.Qty, int a1.Amount, int a1.Ref, lst 1 fI a1.Refs]]⟩), (2, ⟨28, 9, true, true, v4, [[int a2.Kind, int a2.E, int a2.Item, int a2.Loc, int a2.To, int a2.Qty, int a2.Amount, int a2.Ref, lst 1 fI a2.Refs]]⟩)])) rfl rfl rfl rfl (yl_call rfl rfl (.cons rfl (.cons rfl .nil)) cal23 ?_) (by rintro y _ ⟨_, _, rfl, hc, rfl⟩ <;> exact ⟨rfl, trivial⟩) ?_
  refine pcw (c := _) Try.func23 rfl rfl ?_; intro Q hret hnorm
  refine tc tbk 12 (.mk ?_)
  refine sY (yv_to (y := boo false) (yv_eql rfl rfl rfl) (congrArg boo (by decide))) ?_
  refine tr tbk 5 (.mk ?_)
  refine sY (yv_to (y := boo false) (yv_eql rfl rfl rfl) (congrArg boo (by decide))) ?_
  refine tr tbk 5 (.mk ?_)
  refine sY (yv_to (y := boo false) (yv_eql rfl rfl rfl) (congrArg boo (by decide))) ?_
  refine tr tbk 5 (.mk ?_)
  refine sY (yv_to (y := boo false) (yv_eql rfl rfl rfl) (congrArg boo (by decide))) ?_
  refine tr tbk 5 (.mk ?_)
  refine sY (yv_to (y := boo false) (yv_eql rfl rfl rfl) (congrArg boo (by decide))) ?_
  refine tr tbk 5 (.mk ?_)
  refine sY (yv_to (y := boo true) (yv_eql rfl rfl rfl) (congrArg boo (by decide))) ?_
  refine tr tbk 10 (.mk ?_)
  obtain rfl := nxt_e h1
  refine w_ret (hret _ _ (hk [(1, ⟨28, 9, true, true, v3, [[int a1.Kind, int a1.E, int a1.Item, int a1.Loc, int a1.To, int a1.Qty, int a1.Amount, int a1.Ref, lst 1 fI a1.Refs]]⟩), (2, ⟨28, 9, true, true, v4, [[int a2.Kind, int a2.E, int a2.Item, int a2.Loc, int a2.To, int a2.Qty, int a2.Amount, int a2.Ref, lst 1 fI a2.Refs]]⟩)]) (.tmp rfl .nil) (HK.le ⟨rfl, rfl, trivial⟩) ?_)
  exact ⟨(), (), rfl, rfl, rfl⟩
  rintro y _ ⟨_, _, rfl, hc, rfl⟩
  subst hc
  refine eN ?_
  refine eL sh3 ?_
  obtain ⟨x23, e23, h0⟩ := bnd_e h0
  refine eP (fun H hH => yv_to (y := boo x23) (yv_neq rfl rfl rfl) (congrArg boo e23)) ?_
  refine de_nil (hK _ ?_)
  replace h0 := asrt_e h0
  obtain ⟨rfl, h0⟩ := h0
  refine tc tbk 14 (.mk ?_)
  refine c_drawE [0, 1, 3, 7, 0, 19, 51, 115, 255] (rl [(2, [1]), (3, [1]), (6, [2]), (7, [2])] []) (rl [(1, []), (5, [1])] [1, 2]) (rl [(1, false), (5, false)] true) [0, 4, 1, 2, 3, 5, 6, 7, 8] mixed (by kernel_rfl) ?_; intro K hK
  iterate 2 refine eM ?_
  obtain ⟨j24, h1, h0⟩ := bind_e h0
  refine de_eff (Out := fun y H' => (∃ (a : Unit) (k : Unit), a = j24 ∧ y = .pt 1 v3 0 7 ∧ H' = hk [(1, ⟨28, 9, true, true, v3, [[int a1.Kind, int a1.E, int a1.Item, int a1.Loc, int a1.To, int a1.Qty, int a1.Amount, int a1.Ref, lst 1 fI a1.Refs]]⟩), (2, ⟨28, 9, true, true, v4, [[int a2.Kind, int a2.E, int a2.Item, int a2.Loc, int a2.To, int a2.Qty, int a2.Amount, int a2.Ref, lst 1 fI a2.Refs]]⟩)])) rfl rfl rfl rfl (yl_call rfl rfl (.cons rfl (.cons rfl .nil)) cal23 ?_) (by rintro y _ ⟨_, _, rfl, hc, rfl⟩ <;> exact trivial) ?_
  refine pcw (c := _) Try.func23 rfl rfl ?_; intro Q hret hnorm
  refine tc tbk 12 (.mk ?_)
  refine sY (yv_to (y := boo false) (yv_eql rfl rfl rfl) (congrArg boo (by decide))) ?_
  refine tr tbk 5 (.mk ?_)
  refine sY (yv_to (y := boo false) (yv_eql rfl rfl rfl) (congrArg boo (by decide))) ?_
  refine tr tbk 5 (.mk ?_)
  refine sY (yv_to (y := boo false) (yv_eql rfl rfl rfl) (congrArg boo (by decide))) ?_
  refine tr tbk 5 (.mk ?_)
  refine sY (yv_to (y := boo false) (yv_eql rfl rfl rfl) (congrArg boo (by decide))) ?_
  refine tr tbk 5 (.mk ?_)
  refine sY (yv_to (y := boo false) (yv_eql rfl rfl rfl) (congrArg boo (by decide))) ?_
  refine tr tbk 5 (.mk ?_)
  refine sY (yv_to (y := boo false) (yv_eql rfl rfl rfl) (congrArg boo (by decide))) ?_
  refine tr tbk 12 (.mk ?_)
  obtain rfl := nxt_e h1
  refine w_ret (hret _ _ (hk [(1, ⟨28, 9, true, true, v3, [[int a1.Kind, int a1.E, int a1.Item, int a1.Loc, int a1.To, int a1.Qty, int a1.Amount, int a1.Ref, lst 1 fI a1.Refs]]⟩), (2, ⟨28, 9, true, true, v4, [[int a2.Kind, int a2.E, int a2.Item, int a2.Loc, int a2.To, int a2.Qty, int a2.Amount, int a2.Ref, lst 1 fI a2.Refs]]⟩)]) (.tmp rfl .nil) (HK.le ⟨rfl, rfl, trivial⟩) ?_)
  exact ⟨(), (), rfl, rfl, rfl⟩
  rintro y _ ⟨_, _, rfl, hc, rfl⟩
  subst hc
  refine eN ?_
  refine eL sh3 ?_
  obtain ⟨j25, h1, h0⟩ := bind_e h0
  refine de_eff (Out := fun y H' => (∃ (a : Unit) (k : Unit), a = j25 ∧ y = .pt 2 v4 0 7 ∧ H' = hk [(1, ⟨28, 9, true, true, v3, [[int a1.Kind, int a1.E, int a1.Item, int a1.Loc, int a1.To, int a1.Qty, int a1.Amount, int a1.Ref, lst 1 fI a1.Refs]]⟩), (2, ⟨28, 9, true, true, v4, [[int a2.Kind, int a2.E, int a2.Item, int a2.Loc, int a2.To, int a2.Qty, int a2.Amount, int a2.Ref, lst 1 fI a2.Refs]]⟩)])) rfl rfl rfl rfl (yl_call rfl rfl (.cons rfl (.cons rfl .nil)) cal23 ?_) (by rintro y _ ⟨_, _, rfl, hc, rfl⟩ <;> exact ⟨rfl, trivial⟩) ?_
  refine pcw (c := _) Try.func23 rfl rfl ?_; intro Q hret hnorm
  refine tc tbk 12 (.mk ?_)
  refine sY (yv_to (y := boo false) (yv_eql rfl rfl rfl) (congrArg boo (by decide))) ?_
  refine tr tbk 5 (.mk ?_)
  refine sY (yv_to (y := boo false) (yv_eql rfl rfl rfl) (congrArg boo (by decide))) ?_
  refine tr tbk 5 (.mk ?_)
  refine sY (yv_to (y := boo false) (yv_eql rfl rfl rfl) (congrArg boo (by decide))) ?_
  refine tr tbk 5 (.mk ?_)
  refine sY (yv_to (y := boo false) (yv_eql rfl rfl rfl) (congrArg boo (by decide))) ?_
  refine tr tbk 5 (.mk ?_)
  refine sY (yv_to (y := boo false) (yv_eql rfl rfl rfl) (congrArg boo (by decide))) ?_
  refine tr tbk 5 (.mk ?_)
  refine sY (yv_to (y := boo false) (yv_eql rfl rfl rfl) (congrArg boo (by decide))) ?_
  refine tr tbk 12 (.mk ?_)
  obtain rfl := nxt_e h1
  refine w_ret (hret _ _ (hk [(1, ⟨28, 9, true, true, v3, [[int a1.Kind, int a1.E, int a1.Item, int a1.Loc, int a1.To, int a1.Qty, int a1.Amount, int a1.Ref, lst 1 fI a1.Refs]]⟩), (2, ⟨28, 9, true, true, v4, [[int a2.Kind, int a2.E, int a2.Item, int a2.Loc, int a2.To, int a2.Qty, int a2.Amount, int a2.Ref, lst 1 fI a2.Refs]]⟩)]) (.tmp rfl .nil) (HK.le ⟨rfl, rfl, trivial⟩) ?_)
  exact ⟨(), (), rfl, rfl, rfl⟩
  rintro y _ ⟨_, _, rfl, hc, rfl⟩
  subst hc
  refine eN ?_
  refine eL sh3 ?_
  obtain ⟨x26, e26, h0⟩ := bnd_e h0
  refine eP (fun H hH => yv_to (y := boo x26) (yv_neq rfl rfl rfl) (congrArg boo e26)) ?_
  refine de_nil (hK _ ?_)
  replace h0 := asrt_e h0
  obtain ⟨rfl, h0⟩ := h0
  refine tc tbk 8 (.mk ?_)
  refine jn h0 [] [] (fun (a : Bool) (k : Unit) => [(4, boo a)]) (fun a k => []) ⟨fun j27 h1 => ?_, ?_⟩
  refine tc tbk 5 (.mk ?_)
  refine nb tbk h1 fun x28 h1 => ?_
  refine tr tbk 1 (.mk ?_)
  cases x28
  replace h1 := cf h1
  refine tr tbk 8 (.mk ?_)
  exact lf h1 () leA
  replace h1 := ct h1
  refine tr tbk 4 (.mk ?_)
  obtain ⟨x29, e29, h1⟩ := bind_e h1
  refine sC cal55 (d_slices_Equal_int_int_c e29) ?_
  refine tr tbk 3 (.mk ?_)
  exact lf h1 () leA
  rintro y4_1 _ h0
  obtain rfl := nxt_e h0
  refine wR hret (rT .nil) ?_
  exact .refl _
def d_ops_Same_L0 (a1 : List GOp) (a2 : List GOp) : Nat → Int → Option ((Unit) ⊕ ((Bool)))
  | 0, _ => none
  | n + 1, y0_1 =>
    bnd (decide (y0_1 < (a1.length : Int))) fun x6 =>
    cond x6 ((ix a1 y0_1).bind fun x7 =>
    (ix a2 y0_1).bind fun x9 =>
    (d_ops_same n x7 x9).bind fun x11 =>
    bnd (!x11) fun x12 =>
    cond x12 (esc (some (false : Bool))) (bnd (w64 (y0_1 + 1)) fun x13 =>
    d_ops_Same_L0 a1 a2 n (x13 : Int))) (brk ())
def d_ops_Same (n : Nat) (a1 : List GOp) (a2 : List GOp) : Option (Bool) :=
(show Option ((Bool)) from
bnd (decide ((a1.length : Int) ≠ (a2.length : Int))) fun x4 =>
cond x4 (some (false : Bool)) ((show Option ((Unit) ⊕ ((Bool))) from
d_ops_Same_L0 a1 a2 n (0 : Int)).bind <| sel <| fun _ =>
some (true : Bool))).bind <| fun y2_1 =>
some ((y2_1 : Bool))
theorem d_ops_Same_c {n : Nat} {a1 : List GOp} {a2 : List GOp} {r : Bool} (h0 : d_ops_Same n a1 a2 = some r) : PP Try.prog 12 [lst 9 GOp.av a1, lst 9 GOp.av a2] (fun y => y = boo r) := by
  unfold d_ops_Same at h0
  refine pp_of_pc (R0 := fun y H => Cv (frzH H) y (boo r)) ?_ (fun y H hc => ⟨_, rfl, pvB r, hc⟩)
  refine pcw (c := _) Try.func12 rfl rfl ?_; intro Q hret hnorm
  refine tc tbk 8 (.mk ?_)
  obtain ⟨j3, h1, h0⟩ := bind_e h0
  refine rse (Out := fun y H' => (∃ (a : Bool) (k : Unit), a = j3 ∧ y = boo a ∧ H' = hk [])) rfl rfl rfl (yl_call rfl rfl (.cons rfl (.cons rfl (.cons rfl .nil))) cal37 ?_) ?_
  refine pcw (c := _) Try.func37 rfl rfl ?_; intro Q hret hnorm
  refine tc tbk 8 (.mk ?_)
  refine sY (yv_len_sl rfl Try.underlying22 rfl (lst_len _)) ?_
  refine tr tbk 1 (.mk ?_)
  refine sY (yv_len_sl rfl Try.underlying22 rfl (lst_len _)) ?_
  refine nb tbk h1 fun x4 h1 => ?_
  refine tr tbk 1 (.mk ?_)
  cases x4
  replace h1 := cf h1
  refine tc tbk 6 (.mk ?_)
  refine sY (yv_len_sl rfl Try.underlying22 rfl (lst_len _)) ?_
  refine tr tbk 2 (.mk ?_)
  refine jnE h1 [6] [] (fun (a : Unit) (k : Unit) => []) (fun a k => []) ⟨fun j5 h2 h1 => ?_, ?_⟩
  refine tc tbk 1 (.mk ?_)
  refine lp (fun n (a : Int) => d_ops_Same_L0 a1 a2 n a) (0 : Int) () h2 [1, 2, 6, 15, 16] [] (fun (a : Int) (k : Unit) => [(17, int a)]) (fun a k => []) (fun _ => rfl) ⟨leA, ?_⟩
  rintro n y0_1 _ hm h2
  replace h2 : d_ops_Same_L0 a1 a2 (n + 1) y0_1 = some _ := h2
  rw [d_ops_Same_L0] at h2
  refine tc tbk 2 (.mk ?_)
  refine nb tbk h2 fun x6 h2 => ?_
  refine tr tbk 2 (.mk ?_)
  cases x6
  replace h2 := cf h2
  refine tc tbk 2 (.mk ?_)
  exact lfE h2 () leA
  replace h2 := ct h2
  refine tc tbk 7 (.mk ?_)
  obtain ⟨x7, e7, h2⟩ := bind_e h2
  refine sY (yv_ixT rfl Try.underlying22 sh28 rfl rfl e7) ?_
  refine tr tbk 1 (.mk ?_)
  refine sA 1 z28 fun v8 => ?_
  refine tr tbk 1 (.mk ?_)
  refine sS ⟨28, 9, true, true, v8, [[int x7.Kind, int x7.E, int x7.Item, int x7.Loc, int x7.To, int x7.Qty, int x7.Amount, int x7.Ref, lst 1 fI x7.Refs]]⟩ sh28 ?_
  refine tr tbk 5 (.mk ?_)
  obtain ⟨x9, e9, h2⟩ := bind_e h2
  refine sY (yv_ixT rfl Try.underlying22 sh28 rfl rfl e9) ?_
  refine tr tbk 1 (.mk ?_)
  refine sA 2 z28 fun v10 => ?_
  refine sS ⟨28, 9, true, true, v10, [[int x9.Kind, int x9.E, int x9.Item, int x9.Loc, int x9.To, int x9.Qty, int x9.Amount, int x9.Ref, lst 1 fI x9.Refs]]⟩ sh28 ?_
  refine tr tbk 6 (.mk ?_)
  obtain ⟨x11, e11, h2⟩ := bind_e h2
  refine sC cal38 (d_ops_same_c e11) ?_
  refine nb tbk h2 fun x12 h2 => ?_
  refine tr tbk 1 (.mk ?_)
  cases x12
  replace h2 := cf h2
  refine tc tbk 4 (.mk ?_)
  refine ni tbk h2 fun x13 h2 => ?_
  refine tr tbk 2 (.mk ?_)
  exact bk x13 () h2 leA
  replace h2 := ct h2
  refine tc tbk 5 (.mk ?_)
  obtain ⟨c14, hX, hj⟩ := esc_e h2; subst hj; replace h1 := hX.trans (sel_r h1)
  obtain rfl := nxt_e h1
  refine w_ret (hret _ _ (hk []) (.tmp rfl .nil) (fun _ _ h => nomatch h) ?_)
  exact ⟨false, (), rfl, rfl, rfl⟩
  rintro _ _ h1
  refine tc tbk 4 (.mk ?_)
  obtain rfl := nxt_e h1
  refine w_ret (hret _ _ (hk []) (.tmp rfl .nil) (fun _ _ h => nomatch h) ?_)
  exact ⟨true, (), rfl, rfl, rfl⟩
  replace h1 := ct h1
  refine tc tbk 5 (.mk ?_)
  obtain rfl := nxt_e h1
  refine w_ret (hret _ _ (hk []) (.tmp rfl .nil) (fun _ _ h => nomatch h) ?_)
  exact ⟨false, (), rfl, rfl, rfl⟩
  rintro y _ ⟨y2_1, _, rfl, hc, rfl⟩
  subst hc
  refine tr tbk 2 (.mk ?_)
  obtain rfl := nxt_e h0
  refine wR hret (rT .nil) ?_
  exact .refl _
def d_law05_awake (n : Nat)  : Option (Bool) :=
(d_ops_Bytes n [(⟨1, 0, 0, 0, 0, 1, 5, 0, []⟩ : GOp)]).bind fun x1 =>
(d_ops_Read n x1).bind fun x2 =>
(show Option (Bool) from
(d_ops_Check n (⟨1, 0, 0, 0, 0, 1, 5, 0, []⟩ : GOp)).bind fun x4 =>
cond x4 (bnd (decide (x2.2 = 0)) fun x5 =>
cond x5 ((d_ops_Same n [(⟨1, 0, 0, 0, 0, 1, 5, 0, []⟩ : GOp)] x2.1).bind fun x6 =>
cond x6 (bnd (decide ((x2.1.length : Int) = 1)) fun x7 =>
cond x7 ((d_ops_Bytes n []).bind fun x8 =>
bnd (decide (x8 = ([0] : List UInt8))) fun x9 =>
cond x9 ((d_ops_Check n (⟨0, 0, 0, 0, 0, 0, 0, 0, []⟩ : GOp)).bind fun x10 =>
bnd (!x10) fun x11 =>
some (x11 : Bool)) (some (false : Bool))) (some (false : Bool))) (some (false : Bool))) (some (false : Bool))) (some (false : Bool))).bind <| fun y0_1 =>
some ((y0_1 : Bool))
theorem d_law05_awake_c {n : Nat}  {r : Bool} (h0 : d_law05_awake n  = some r) : PP Try.prog 7 [] (fun y => y = boo r) := by
  unfold d_law05_awake at h0
  refine pp_of_pc (R0 := fun y H => Cv (frzH H) y (boo r)) ?_ (fun y H hc => ⟨_, rfl, pvB r, hc⟩)
  refine pcw (c := _) Try.func7 rfl rfl ?_; intro Q hret hnorm
  refine tc tbk 6 (.mk ?_)
  refine sY (yv_build (cs := [int 1, int 0, int 0, int 0, int 0, int 1, int 5, int 0, .sc (.slice none 0 0)]) (ps := [(0, _), (5, _), (6, _)]) rfl pl28 z28 rfl (.cons rfl (.cons rfl (.cons rfl .nil))) (by kernel_rfl)) ?_
  refine sY (yv_buildSlice (ps := [(0, _)]) (rows := [[int 1, int 0, int 0, int 0, int 0, int 1, int 5, int 0, .sc (.slice none 0 0)]]) rfl Try.underlying22 bz28 (.cons rfl .nil) (by kernel_rfl) rfl rfl rfl) ?_
  refine tr tbk 5 (.mk ?_)
  obtain ⟨x1, e1, h0⟩ := bind_e h0
  refine sY (yv_callP rfl rfl (.cons rfl .nil) cal14 (.cons (CvLL.list (.cons (.cons (.refl _) (.cons (.refl _) (.cons (.refl _) (.cons (.refl _) (.cons (.refl _) (.cons (.refl _) (.cons (.refl _) (.cons (.refl _) (.cons (.nil _) .nil))))))))) .nil)) .nil) (d_ops_Bytes_c e1)) ?_
  obtain ⟨x2, e2, h0⟩ := bind_e h0
  refine sC cal10 (d_ops_Read_c e2) ?_
  refine tr tbk 7 (.mk ?_)
  refine jn h0 [] [] (fun (a : Bool) (k : Unit) => [(0, boo a)]) (fun a k => []) ⟨fun j3 h1 => ?_, ?_⟩
  refine tc tbk 2 (.mk ?_)
  refine sY (yv_indexAddr (j := 0) rfl Try.underlying22 sh28 rfl rfl rfl (.list rfl)) ?_
  refine tr tbk 1 (.mk ?_)
  obtain ⟨x4, e4, h1⟩ := bind_e h1
  refine sY (yv_callP rfl rfl (.cons rfl .nil) cal8 (.cons (CvL.agg (.cons (.refl _) (.cons (.refl _) (.cons (.refl _) (.cons (.refl _) (.cons (.refl _) (.cons (.refl _) (.cons (.refl _) (.cons (.refl _) (.cons (.nil _) .nil)))))))))) .nil) (d_ops_Check_c e4)) ?_
  refine tr tbk 1 (.mk ?_)
  cases x4
  replace h1 := cf h1
  refine tr tbk 24 (.mk ?_)
  exact lf h1 () leA
  replace h1 := ct h1
  refine tr tbk 1 (.mk ?_)
  refine nb tbk h1 fun x5 h1 => ?_
  refine tr tbk 2 (.mk ?_)
  cases x5
  replace h1 := cf h1
  refine tr tbk 20 (.mk ?_)
  exact lf h1 () leA
  replace h1 := ct h1
  refine tr tbk 2 (.mk ?_)
  obtain ⟨x6, e6, h1⟩ := bind_e h1
  refine sY (yv_callP rfl rfl (.cons rfl (.cons rfl .nil)) cal12 (.cons (CvLL.list (.cons (.cons (.refl _) (.cons (.refl _) (.cons (.refl _) (.cons (.refl _) (.cons (.refl _) (.cons (.refl _) (.cons (.refl _) (.cons (.refl _) (.cons (.nil _) .nil))))))))) .nil)) (.cons (.refl _) .nil)) (d_ops_Same_c e6)) ?_
  refine tr tbk 2 (.mk ?_)
  cases x6
  replace h1 := cf h1
  refine tr tbk 15 (.mk ?_)
  exact lf h1 () leA
  replace h1 := ct h1
  refine tr tbk 1 (.mk ?_)
  refine sY (yv_len_sl rfl Try.underlying22 rfl (lst_len _)) ?_
  refine nb tbk h1 fun x7 h1 => ?_
  refine tr tbk 2 (.mk ?_)
  cases x7
  replace h1 := cf h1
  refine tr tbk 10 (.mk ?_)
  exact lf h1 () leA
  replace h1 := ct h1
  obtain ⟨x8, e8, h1⟩ := bind_e h1
  refine sY (yv_callP rfl rfl (.cons rfl .nil) cal14 (.cons (.nil _) .nil) (d_ops_Bytes_c e8)) ?_
  obtain ⟨x9, e9, h1⟩ := bnd_e h1
  refine sY (yv_to (y := boo x9) (yv_seql rfl rfl rfl) (congrArg boo e9)) ?_
  refine tr tbk 2 (.mk ?_)
  cases x9
  replace h1 := cf h1
  refine tr tbk 6 (.mk ?_)
  exact lf h1 () leA
  replace h1 := ct h1
  refine sY (yv_build (cs := [int 0, int 0, int 0, int 0, int 0, int 0, int 0, int 0, .sc (.slice none 0 0)]) (ps := []) rfl pl28 z28 rfl .nil (by kernel_rfl)) ?_
  obtain ⟨x10, e10, h1⟩ := bind_e h1
  refine sY (yv_callP rfl rfl (.cons rfl .nil) cal8 (.cons (CvL.agg (.cons (.refl _) (.cons (.refl _) (.cons (.refl _) (.cons (.refl _) (.cons (.refl _) (.cons (.refl _) (.cons (.refl _) (.cons (.refl _) (.cons (.nil _) .nil)))))))))) .nil) (d_ops_Check_c e10)) ?_
  refine nb tbk h1 fun x11 h1 => ?_
  refine tr tbk 3 (.mk ?_)
  exact lf h1 () leA
  rintro y0_1 _ h0
  obtain rfl := nxt_e h0
  refine wR hret (rT .nil) ?_
  exact .refl _
end Go.Pv
