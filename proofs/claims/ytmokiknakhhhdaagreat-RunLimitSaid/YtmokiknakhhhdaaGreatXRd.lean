import Derived.Test.YtmokiknakhhhdaaGreatXRc
set_option linter.unusedVariables false
set_option linter.unusedSimpArgs false
namespace Go.Pv
open Go.Proofs
set_option maxRecDepth 100000
set_option maxHeartbeats 4000000
noncomputable section
def pU (x6:Int):Nat->Int->cZ->(List aF)->Option ((cZ×(List aF))⊕((List aF)×Int))
  | 0,_,_,_=>none
  | n+1,y2_2,y2_3,y2_4 =>
    bnd (decide (y2_2<x6)) λx10 =>
    cond x10 ((show Option ((cZ×(List aF))⊕((cZ×(List aF))⊕((List aF)×Int))) from
    bU (((y2_3.s,y2_3.bad):RS).1.length<=9223372036854775806)<|
    bnd (dU ((y2_3.s,y2_3.bad):RS) 16) λx13 =>
    bnd (dW ((y2_3.s,y2_3.bad):RS) 16) λx14 =>
    bnd (decide (x13=0)) λx16 =>
    cond x16 ((show Option (Bool) from
    bnd x14.2 λx403 =>
    cond x403 (some (true:Bool)) ((dL n (⟨x13,0,0,0,0,0,0,0,[]⟩:aF)).bind λx404 =>
    bnd (!x404) λx405 =>
    some (x405:Bool))).bind <| λy5_1 =>
    cond y5_1 (esc (esc (some (([]:List aF),(3:Int))))) (bnd (y2_4++[(⟨x13,0,0,0,0,0,0,0,[]⟩:aF)]) λx406 =>
    bU (x406.length<=68719476736)<|
    brk (((⟨x14.1,x14.2⟩:cZ):cZ),(x406:List aF)))) (bnd (decide (x13=1)) λx17 =>
    cond x17 ((show Option ((Unit)) from
    some ()).bind <| λ_ =>
    bU (x14.1.length<=9223372036854775806)<|
    bnd (dA x14) λx374 =>
    bnd (dF x14) λx375 =>
    (show Option ((Unit)) from
    some ()).bind <| λ_ =>
    bU (x375.1.length<=9223372036854775806)<|
    bnd (dA x375) λx378 =>
    bnd (dF x375) λx379 =>
    (show Option ((Unit)) from
    some ()).bind <| λ_ =>
    bU (x379.1.length<=9223372036854775806)<|
    bnd (dA x379) λx382 =>
    bnd (dF x379) λx383 =>
    (show Option ((Unit)) from
    some ()).bind <| λ_ =>
    bU (x383.1.length<=9223372036854775806)<|
    bnd (dA x383) λx386 =>
    bnd (dF x383) λx387 =>
    (show Option ((Unit)) from
    some ()).bind <| λ_ =>
    bU (x387.1.length<=9223372036854775806)<|
    bnd (dA x387) λx390 =>
    bnd (dF x387) λx391 =>
    (show Option (Bool) from
    bnd x391.2 λx393 =>
    cond x393 (some (true:Bool)) ((dL n (⟨x13,x374,x378,x382,0,x386,x390,0,[]⟩:aF)).bind λx394 =>
    bnd (!x394) λx395 =>
    some (x395:Bool))).bind <| λy5_1 =>
    cond y5_1 (esc (esc (some (([]:List aF),(3:Int))))) (bnd (y2_4++[(⟨x13,x374,x378,x382,0,x386,x390,0,[]⟩:aF)]) λx396 =>
    bU (x396.length<=68719476736)<|
    brk (((⟨x391.1,x391.2⟩:cZ):cZ),(x396:List aF)))) (bnd (decide (x13=2)) λx18 =>
    cond x18 ((show Option ((Unit)) from
    some ()).bind <| λ_ =>
    bU (x14.1.length<=9223372036854775806)<|
    bnd (dA x14) λx352 =>
    bnd (dF x14) λx353 =>
    (show Option ((Unit)) from
    some ()).bind <| λ_ =>
    bU (x353.1.length<=9223372036854775806)<|
    bnd (dA x353) λx356 =>
    bnd (dF x353) λx357 =>
    (show Option ((Unit)) from
    some ()).bind <| λ_ =>
    bU (x357.1.length<=9223372036854775806)<|
    bnd (dA x357) λx360 =>
    bnd (dF x357) λx361 =>
    (show Option (Bool) from
    bnd x361.2 λx363 =>
    cond x363 (some (true:Bool)) ((dL n (⟨x13,0,0,0,0,x352,x356,x360,[]⟩:aF)).bind λx364 =>
    bnd (!x364) λx365 =>
    some (x365:Bool))).bind <| λy5_1 =>
    cond y5_1 (esc (esc (some (([]:List aF),(3:Int))))) (bnd (y2_4++[(⟨x13,0,0,0,0,x352,x356,x360,[]⟩:aF)]) λx366 =>
    bU (x366.length<=68719476736)<|
    brk (((⟨x361.1,x361.2⟩:cZ):cZ),(x366:List aF)))) (bnd (decide (x13=3)) λx19 =>
    cond x19 ((show Option ((Unit)) from
    some ()).bind <| λ_ =>
    bU (x14.1.length<=9223372036854775806)<|
    bnd (dA x14) λx334 =>
    bnd (dF x14) λx335 =>
    (show Option ((Unit)) from
    some ()).bind <| λ_ =>
    bU (x335.1.length<=9223372036854775806)<|
    bnd (dA x335) λx338 =>
    bnd (dF x335) λx339 =>
    (show Option (Bool) from
    bnd x339.2 λx341 =>
    cond x341 (some (true:Bool)) ((dL n (⟨x13,0,0,0,0,x334,0,x338,[]⟩:aF)).bind λx342 =>
    bnd (!x342) λx343 =>
    some (x343:Bool))).bind <| λy5_1 =>
    cond y5_1 (esc (esc (some (([]:List aF),(3:Int))))) (bnd (y2_4++[(⟨x13,0,0,0,0,x334,0,x338,[]⟩:aF)]) λx344 =>
    bU (x344.length<=68719476736)<|
    brk (((⟨x339.1,x339.2⟩:cZ):cZ),(x344:List aF)))) (bnd (decide (x13=4)) λx20 =>
    cond x20 ((show Option ((Unit)) from
    some ()).bind <| λ_ =>
    bU (x14.1.length<=9223372036854775806)<|
    bnd (dA x14) λx304 =>
    bnd (dF x14) λx305 =>
    (show Option ((Unit)) from
    some ()).bind <| λ_ =>
    bU (x305.1.length<=9223372036854775806)<|
    bnd (dA x305) λx308 =>
    bnd (dF x305) λx309 =>
    (show Option ((Unit)) from
    some ()).bind <| λ_ =>
    bU (x309.1.length<=9223372036854775806)<|
    bnd (dA x309) λx312 =>
    bnd (dF x309) λx313 =>
    (show Option ((Unit)) from
    some ()).bind <| λ_ =>
    bU (x313.1.length<=9223372036854775806)<|
    bnd (dA x313) λx316 =>
    bnd (dF x313) λx317 =>
    (show Option ((Unit)) from
    some ()).bind <| λ_ =>
    bU (x317.1.length<=9223372036854775806)<|
    bnd (dA x317) λx320 =>
    bnd (dF x317) λx321 =>
    (show Option (Bool) from
    bnd x321.2 λx323 =>
    cond x323 (some (true:Bool)) ((dL n (⟨x13,x304,x308,x312,0,x316,x320,0,[]⟩:aF)).bind λx324 =>
    bnd (!x324) λx325 =>
    some (x325:Bool))).bind <| λy5_1 =>
    cond y5_1 (esc (esc (some (([]:List aF),(3:Int))))) (bnd (y2_4++[(⟨x13,x304,x308,x312,0,x316,x320,0,[]⟩:aF)]) λx326 =>
    bU (x326.length<=68719476736)<|
    brk (((⟨x321.1,x321.2⟩:cZ):cZ),(x326:List aF)))) (bnd (decide (x13=5)) λx21 =>
    cond x21 ((show Option ((Unit)) from
    some ()).bind <| λ_ =>
    bU (x14.1.length<=9223372036854775806)<|
    bnd (dA x14) λx282 =>
    bnd (dF x14) λx283 =>
    (show Option ((Unit)) from
    some ()).bind <| λ_ =>
    bU (x283.1.length<=9223372036854775806)<|
    bnd (dA x283) λx286 =>
    bnd (dF x283) λx287 =>
    (show Option ((Unit)) from
    some ()).bind <| λ_ =>
    bU (x287.1.length<=9223372036854775806)<|
    bnd (dA x287) λx290 =>
    bnd (dF x287) λx291 =>
    (show Option (Bool) from
    bnd x291.2 λx293 =>
    cond x293 (some (true:Bool)) ((dL n (⟨x13,0,0,0,0,x282,x286,x290,[]⟩:aF)).bind λx294 =>
    bnd (!x294) λx295 =>
    some (x295:Bool))).bind <| λy5_1 =>
    cond y5_1 (esc (esc (some (([]:List aF),(3:Int))))) (bnd (y2_4++[(⟨x13,0,0,0,0,x282,x286,x290,[]⟩:aF)]) λx296 =>
    bU (x296.length<=68719476736)<|
    brk (((⟨x291.1,x291.2⟩:cZ):cZ),(x296:List aF)))) (bnd (decide (x13=6)) λx22 =>
    cond x22 ((show Option ((Unit)) from
    some ()).bind <| λ_ =>
    bU (x14.1.length<=9223372036854775806)<|
    bnd (dA x14) λx256 =>
    bnd (dF x14) λx257 =>
    (show Option ((Unit)) from
    some ()).bind <| λ_ =>
    bU (x257.1.length<=9223372036854775806)<|
    bnd (dA x257) λx260 =>
    bnd (dF x257) λx261 =>
    (show Option ((Unit)) from
    some ()).bind <| λ_ =>
    bU (x261.1.length<=9223372036854775806)<|
    bnd (dA x261) λx264 =>
    bnd (dF x261) λx265 =>
    (show Option ((Unit)) from
    some ()).bind <| λ_ =>
    bU (x265.1.length<=9223372036854775806)<|
    bnd (dA x265) λx268 =>
    bnd (dF x265) λx269 =>
    (show Option (Bool) from
    bnd x269.2 λx271 =>
    cond x271 (some (true:Bool)) ((dL n (⟨x13,x256,x260,x264,0,x268,0,0,[]⟩:aF)).bind λx272 =>
    bnd (!x272) λx273 =>
    some (x273:Bool))).bind <| λy5_1 =>
    cond y5_1 (esc (esc (some (([]:List aF),(3:Int))))) (bnd (y2_4++[(⟨x13,x256,x260,x264,0,x268,0,0,[]⟩:aF)]) λx274 =>
    bU (x274.length<=68719476736)<|
    brk (((⟨x269.1,x269.2⟩:cZ):cZ),(x274:List aF)))) (bnd (decide (x13=7)) λx23 =>
    cond x23 ((show Option ((Unit)) from
    some ()).bind <| λ_ =>
    bU (x14.1.length<=9223372036854775806)<|
    bnd (dA x14) λx230 =>
    bnd (dF x14) λx231 =>
    (show Option ((Unit)) from
    some ()).bind <| λ_ =>
    bU (x231.1.length<=9223372036854775806)<|
    bnd (dA x231) λx234 =>
    bnd (dF x231) λx235 =>
    (show Option ((Unit)) from
    some ()).bind <| λ_ =>
    bU (x235.1.length<=9223372036854775806)<|
    bnd (dA x235) λx238 =>
    bnd (dF x235) λx239 =>
    (show Option ((Unit)) from
    some ()).bind <| λ_ =>
    bU (x239.1.length<=9223372036854775806)<|
    bnd (dA x239) λx242 =>
    bnd (dF x239) λx243 =>
    (show Option (Bool) from
    bnd x243.2 λx245 =>
    cond x245 (some (true:Bool)) ((dL n (⟨x13,x230,x234,x238,0,x242,0,0,[]⟩:aF)).bind λx246 =>
    bnd (!x246) λx247 =>
    some (x247:Bool))).bind <| λy5_1 =>
    cond y5_1 (esc (esc (some (([]:List aF),(3:Int))))) (bnd (y2_4++[(⟨x13,x230,x234,x238,0,x242,0,0,[]⟩:aF)]) λx248 =>
    bU (x248.length<=68719476736)<|
    brk (((⟨x243.1,x243.2⟩:cZ):cZ),(x248:List aF)))) (bnd (decide (x13=8)) λx24 =>
    cond x24 ((show Option ((Unit)) from
    some ()).bind <| λ_ =>
    bU (x14.1.length<=9223372036854775806)<|
    bnd (dA x14) λx200 =>
    bnd (dF x14) λx201 =>
    (show Option ((Unit)) from
    some ()).bind <| λ_ =>
    bU (x201.1.length<=9223372036854775806)<|
    bnd (dA x201) λx204 =>
    bnd (dF x201) λx205 =>
    (show Option ((Unit)) from
    some ()).bind <| λ_ =>
    bU (x205.1.length<=9223372036854775806)<|
    bnd (dA x205) λx208 =>
    bnd (dF x205) λx209 =>
    (show Option ((Unit)) from
    some ()).bind <| λ_ =>
    bU (x209.1.length<=9223372036854775806)<|
    bnd (dA x209) λx212 =>
    bnd (dF x209) λx213 =>
    (show Option ((Unit)) from
    some ()).bind <| λ_ =>
    bU (x213.1.length<=9223372036854775806)<|
    bnd (dA x213) λx216 =>
    bnd (dF x213) λx217 =>
    (show Option (Bool) from
    bnd x217.2 λx219 =>
    cond x219 (some (true:Bool)) ((dL n (⟨x13,x200,x204,x208,x212,x216,0,0,[]⟩:aF)).bind λx220 =>
    bnd (!x220) λx221 =>
    some (x221:Bool))).bind <| λy5_1 =>
    cond y5_1 (esc (esc (some (([]:List aF),(3:Int))))) (bnd (y2_4++[(⟨x13,x200,x204,x208,x212,x216,0,0,[]⟩:aF)]) λx222 =>
    bU (x222.length<=68719476736)<|
    brk (((⟨x217.1,x217.2⟩:cZ):cZ),(x222:List aF)))) (bnd (decide (x13=9)) λx25 =>
    cond x25 ((show Option ((Unit)) from
    some ()).bind <| λ_ =>
    bU (x14.1.length<=9223372036854775806)<|
    bnd (dA x14) λx178 =>
    bnd (dF x14) λx179 =>
    (show Option ((Unit)) from
    some ()).bind <| λ_ =>
    bU (x179.1.length<=9223372036854775806)<|
    bnd (dA x179) λx182 =>
    bnd (dF x179) λx183 =>
    (show Option ((Unit)) from
    some ()).bind <| λ_ =>
    bU (x183.1.length<=9223372036854775806)<|
    bnd (dA x183) λx186 =>
    bnd (dF x183) λx187 =>
    (show Option (Bool) from
    bnd x187.2 λx189 =>
    cond x189 (some (true:Bool)) ((dL n (⟨x13,x178,x182,0,0,0,x186,0,[]⟩:aF)).bind λx190 =>
    bnd (!x190) λx191 =>
    some (x191:Bool))).bind <| λy5_1 =>
    cond y5_1 (esc (esc (some (([]:List aF),(3:Int))))) (bnd (y2_4++[(⟨x13,x178,x182,0,0,0,x186,0,[]⟩:aF)]) λx192 =>
    bU (x192.length<=68719476736)<|
    brk (((⟨x187.1,x187.2⟩:cZ):cZ),(x192:List aF)))) (bnd (decide (x13=10)) λx26 =>
    cond x26 ((show Option ((Unit)) from
    some ()).bind <| λ_ =>
    bU (x14.1.length<=9223372036854775806)<|
    bnd (dA x14) λx156 =>
    bnd (dF x14) λx157 =>
    (show Option ((Unit)) from
    some ()).bind <| λ_ =>
    bU (x157.1.length<=9223372036854775806)<|
    bnd (dA x157) λx160 =>
    bnd (dF x157) λx161 =>
    (show Option ((Unit)) from
    some ()).bind <| λ_ =>
    bU (x161.1.length<=9223372036854775806)<|
    bnd (dA x161) λx164 =>
    bnd (dF x161) λx165 =>
    (show Option (Bool) from
    bnd x165.2 λx167 =>
    cond x167 (some (true:Bool)) ((dL n (⟨x13,x156,x160,0,0,0,x164,0,[]⟩:aF)).bind λx168 =>
    bnd (!x168) λx169 =>
    some (x169:Bool))).bind <| λy5_1 =>
    cond y5_1 (esc (esc (some (([]:List aF),(3:Int))))) (bnd (y2_4++[(⟨x13,x156,x160,0,0,0,x164,0,[]⟩:aF)]) λx170 =>
    bU (x170.length<=68719476736)<|
    brk (((⟨x165.1,x165.2⟩:cZ):cZ),(x170:List aF)))) (bnd (decide (x13=11)) λx27 =>
    cond x27 ((show Option ((Unit)) from
    some ()).bind <| λ_ =>
    bU (x14.1.length<=9223372036854775806)<|
    bnd (dA x14) λx134 =>
    bnd (dF x14) λx135 =>
    (show Option ((Unit)) from
    some ()).bind <| λ_ =>
    bU (x135.1.length<=9223372036854775806)<|
    bnd (dA x135) λx138 =>
    bnd (dF x135) λx139 =>
    bU (x139.1.length<=1099511627776)<|
    bU (x139.2=true->x139.1=[])<|
    bnd (nV x139 40) λx142 =>
    bnd (oQ x139 40) λx143 =>
    (show Option (Bool) from
    bnd x143.2 λx145 =>
    cond x145 (some (true:Bool)) ((dL n (⟨x13,0,0,0,x134,0,x138,0,x142⟩:aF)).bind λx146 =>
    bnd (!x146) λx147 =>
    some (x147:Bool))).bind <| λy5_1 =>
    cond y5_1 (esc (esc (some (([]:List aF),(3:Int))))) (bnd (y2_4++([(⟨x13,0,0,0,x134,0,x138,0,x142⟩:aF)]:List aF)) λx148 =>
    bU (x148.length<=68719476736)<|
    brk (((⟨x143.1,x143.2⟩:cZ):cZ),(x148:List aF)))) (bnd (decide (x13=12)) λx28 =>
    cond x28 ((show Option ((Unit)) from
    some ()).bind <| λ_ =>
    bU (x14.1.length<=9223372036854775806)<|
    bnd (dA x14) λx100 =>
    bnd (dF x14) λx101 =>
    (show Option ((Unit)) from
    some ()).bind <| λ_ =>
    bU (x101.1.length<=9223372036854775806)<|
    bnd (dA x101) λx104 =>
    bnd (dF x101) λx105 =>
    (show Option ((Unit)) from
    some ()).bind <| λ_ =>
    bU (x105.1.length<=9223372036854775806)<|
    bnd (dA x105) λx108 =>
    bnd (dF x105) λx109 =>
    (show Option ((Unit)) from
    some ()).bind <| λ_ =>
    bU (x109.1.length<=9223372036854775806)<|
    bnd (dA x109) λx112 =>
    bnd (dF x109) λx113 =>
    (show Option ((Unit)) from
    some ()).bind <| λ_ =>
    bU (x113.1.length<=9223372036854775806)<|
    bnd (dA x113) λx116 =>
    bnd (dF x113) λx117 =>
    (show Option ((Unit)) from
    some ()).bind <| λ_ =>
    bU (x117.1.length<=9223372036854775806)<|
    bnd (dA x117) λx120 =>
    bnd (dF x117) λx121 =>
    (show Option (Bool) from
    bnd x121.2 λx123 =>
    cond x123 (some (true:Bool)) ((dL n (⟨x13,x100,x104,x108,x112,x116,x120,0,[]⟩:aF)).bind λx124 =>
    bnd (!x124) λx125 =>
    some (x125:Bool))).bind <| λy5_1 =>
    cond y5_1 (esc (esc (some (([]:List aF),(3:Int))))) (bnd (y2_4++[(⟨x13,x100,x104,x108,x112,x116,x120,0,[]⟩:aF)]) λx126 =>
    bU (x126.length<=68719476736)<|
    brk (((⟨x121.1,x121.2⟩:cZ):cZ),(x126:List aF)))) (bnd (decide (x13=13)) λx29 =>
    cond x29 ((show Option ((Unit)) from
    some ()).bind <| λ_ =>
    bU (x14.1.length<=9223372036854775806)<|
    bnd (dA x14) λx78 =>
    bnd (dF x14) λx79 =>
    (show Option ((Unit)) from
    some ()).bind <| λ_ =>
    bU (x79.1.length<=9223372036854775806)<|
    bnd (dA x79) λx82 =>
    bnd (dF x79) λx83 =>
    (show Option ((Unit)) from
    some ()).bind <| λ_ =>
    bU (x83.1.length<=9223372036854775806)<|
    bnd (dA x83) λx86 =>
    bnd (dF x83) λx87 =>
    (show Option (Bool) from
    bnd x87.2 λx89 =>
    cond x89 (some (true:Bool)) ((dL n (⟨x13,0,0,x78,0,x82,0,x86,[]⟩:aF)).bind λx90 =>
    bnd (!x90) λx91 =>
    some (x91:Bool))).bind <| λy5_1 =>
    cond y5_1 (esc (esc (some (([]:List aF),(3:Int))))) (bnd (y2_4++[(⟨x13,0,0,x78,0,x82,0,x86,[]⟩:aF)]) λx92 =>
    bU (x92.length<=68719476736)<|
    brk (((⟨x87.1,x87.2⟩:cZ):cZ),(x92:List aF)))) (bnd (decide (x13=14)) λx30 =>
    cond x30 ((show Option ((Unit)) from
    some ()).bind <| λ_ =>
    bU (x14.1.length<=9223372036854775806)<|
    bnd (dA x14) λx64 =>
    bnd (dF x14) λx65 =>
    (show Option (Bool) from
    bnd x65.2 λx67 =>
    cond x67 (some (true:Bool)) ((dL n (⟨x13,x64,0,0,0,0,0,0,[]⟩:aF)).bind λx68 =>
    bnd (!x68) λx69 =>
    some (x69:Bool))).bind <| λy5_1 =>
    cond y5_1 (esc (esc (some (([]:List aF),(3:Int))))) (bnd (y2_4++[(⟨x13,x64,0,0,0,0,0,0,[]⟩:aF)]) λx70 =>
    bU (x70.length<=68719476736)<|
    brk (((⟨x65.1,x65.2⟩:cZ):cZ),(x70:List aF)))) (bnd (decide (x13=15)) λx31 =>
    cond x31 ((show Option ((Unit)) from
    some ()).bind <| λ_ =>
    bU (x14.1.length<=9223372036854775806)<|
    bnd (dA x14) λx50 =>
    bnd (dF x14) λx51 =>
    (show Option (Bool) from
    bnd x51.2 λx53 =>
    cond x53 (some (true:Bool)) ((dL n (⟨x13,x50,0,0,0,0,0,0,[]⟩:aF)).bind λx54 =>
    bnd (!x54) λx55 =>
    some (x55:Bool))).bind <| λy5_1 =>
    cond y5_1 (esc (esc (some (([]:List aF),(3:Int))))) (bnd (y2_4++[(⟨x13,x50,0,0,0,0,0,0,[]⟩:aF)]) λx56 =>
    bU (x56.length<=68719476736)<|
    brk (((⟨x51.1,x51.2⟩:cZ):cZ),(x56:List aF)))) (bU (x13=16)<|
    (show Option ((Unit)) from
    some ()).bind <| λ_ =>
    bU (x14.1.length<=9223372036854775806)<|
    bnd (dA x14) λx36 =>
    bnd (dF x14) λx37 =>
    (show Option (Bool) from
    bnd x37.2 λx39 =>
    cond x39 (some (true:Bool)) ((dL n (⟨x13,x36,0,0,0,0,0,0,[]⟩:aF)).bind λx40 =>
    bnd (!x40) λx41 =>
    some (x41:Bool))).bind <| λy5_1 =>
    cond y5_1 (esc (esc (some (([]:List aF),(3:Int))))) (bnd (y2_4++[(⟨x13,x36,0,0,0,0,0,0,[]⟩:aF)]) λx42 =>
    bU (x42.length<=68719476736)<|
    brk (((⟨x37.1,x37.2⟩:cZ):cZ),(x42:List aF)))))))))))))))))))).bind <| sel <| p2 λ(y6_2:cZ) (y6_3:List aF) =>
    bnd (bM (y2_2+1)) λx411 =>
    pU x6 n (x411:Int) (y6_2:cZ) (y6_3:List aF)) (brk ((y2_3:cZ),(y2_4:List aF)))
def wQ (n:Nat) (a1:List UInt8):Option ((List aF)×Int) :=
bnd (decide ((a1.length:Int)>131072)) λx2 =>
bU (x2=false)<|
(show Option ((Unit)) from
some ()).bind <| λ_ =>
bU (((a1,false):RS).1.length<=9223372036854775806)<|
bnd (dU ((a1,false):RS) 400) λx6 =>
bnd (dW ((a1,false):RS) 400) λx7 =>
(show Option ((cZ×(List aF))⊕((List aF)×Int)) from
pU x6 n (0:Int) ((⟨x7.1,x7.2⟩:cZ):cZ) (([]:List aF):List aF)).bind <| sel <| p2 λ(y7_2:cZ) (y7_3:List aF) =>
(show Option (Bool) from
bnd (((y7_2.s,y7_2.bad):RS).2) λx413 =>
cond x413 (some (true:Bool)) (bnd (decide ((((y7_2.s,y7_2.bad):RS).1.length:Int)>0)) λx414 =>
some (x414:Bool))).bind <| λy8_1 =>
cond y8_1 (some (([]:List aF),(3:Int))) (some ((y7_3:List aF),(0:Int)))
theorem aNT {n:Nat} {a1:List UInt8} {r:(List aF)×Int} (h0:wQ n a1=some r):PP Tryz.prog 17 [str a1] (λy=>y=.aS [aG 9 aF.av r.1,int r.2]):=by
  unfold wQ at h0
  refine kE (R0:=λy H=>Cv (iN H) y (.aS [aG 9 aF.av r.1,int r.2])) ?_ (λy H hc=>⟨_,rfl,.aS (BH ((rG aF.eH) (r.1)) (qI (r.2))),hc⟩)
  refine dD (c:=_) Tryz.func17 rfl rfl ?_;intro Q hret hnorm
  refine tc aA 9 (.mk ?_)
  refine sY (qB rfl Tryz.underlying9 rfl) ?_
  refine nb aA h0 λx2 h0=>?_
  refine tr aA 1 (.mk ?_)
  replace h0:=cO h0
  obtain ⟨rfl,h0⟩:=h0
  refine tc aA 5 (.mk ?_)
  obtain ⟨j3,h1,h0⟩:=bJ h0
  refine bL (Out:=λy H'=>(∃ (a:Unit) (k:Nat),a=j3/\y=.pt 1 k 0 0/\H'=hk [(1,⟨131,2,true,true,k,[[str a1,aB false]]⟩)])) rfl rfl rfl (aN rfl rfl (.cons rfl .nil) VE ?_) ?_
  refine dD (c:=_) Tryz.func32 rfl rfl ?_;intro Q hret hnorm
  refine tc aA 8 (.mk ?_)
  refine sB 1 λv4=>?_
  refine tr aA 2 (.mk ?_)
  obtain rfl:=bE h1
  refine dM (hret _ _ (hk [(1,⟨131,2,true,true,v4,[[str a1,aB false]]⟩)]) (.tmp rfl .nil) (HK.le ⟨rfl,trivial⟩) ?_)
  exact ⟨(),v4,rfl,rfl,rfl⟩
  rintro y _ ⟨_,w1_1,rfl,hc,rfl⟩
  subst hc
  refine tr aA 10 (.mk ?_)
  obtain ⟨p5,h0⟩:=cO h0
  obtain ⟨x6,e6,h0⟩:=aP h0
  obtain ⟨x7,e7,h0⟩:=aP h0
  refine bL rfl rfl rfl (aN rfl rfl (.cons rfl (.cons rfl .nil)) B5 (PC.mono (CJ (most:=400) (s:=((a1,false):RS)) (id:=1) (aD:=w1_1) rfl p5) (R':=λy H'=>y=int x6/\H'=upd _ 1 (some (dI 131 w1_1 x7))) (λy H' h=>⟨h.1.trans (congrArg int e6),h.2.trans (d9 e7)⟩))) ?_;rintro _ _ ⟨rfl,rfl⟩
  refine tr aA 2 (.mk ?_)
  refine iA h0 [2,3,4] [] (λ(a:cZ×(List aF)) (k:Nat)=>[(5,.sl 4 k 0 a.2.length)]) (λa k=>[(1,⟨131,2,true,true,w1_1,[[str a.1.s,aB a.1.bad]]⟩),(4,⟨29,9,true,true,k,a.2.map aF.av⟩)]) ⟨λj8 h1 h0=>?_,?_⟩
  refine tc aA 1 (.mk ?_)
  refine tJ 5 4 29 9 rfl rfl ?_;intro v9
  refine lp (λn (a:Int×cZ×(List aF))=>pU x6 n a.1 a.2.1 a.2.2) ((0:Int),((⟨x7.1,x7.2⟩:cZ):cZ),(([]:List aF):List aF)) v9 h1 [2,3,4,15] [] (λ(a:Int×cZ×(List aF)) (k:Nat)=>[(5,.sl 4 k 0 a.2.2.length),(16,int a.1)]) (λa k=>[(1,⟨131,2,true,true,w1_1,[[str a.2.1.s,aB a.2.1.bad]]⟩),(4,⟨29,9,true,true,k,a.2.2.map aF.av⟩)]) (λ_=>rfl) ⟨aW,?_⟩
  rintro n ⟨y2_2,y2_3,y2_4⟩ w2_1 hm h1
  replace h1:pU x6 (n+1) y2_2 y2_3 y2_4=some _:=h1
  rw [pU] at h1
  refine tc aA 2 (.mk ?_)
  refine nb aA h1 λx10 h1=>?_
  refine tr aA 2 (.mk ?_)
  cases x10
  replace h1:=cf h1
  refine tc aA 2 (.mk ?_)
  exact jW h1 w2_1 aW
  replace h1:=ct h1
  refine tc aA 3 (.mk ?_)
  refine iA h1 [2,3,4,15,16] [] (λ(a:cZ×(List aF)) (k:Nat)=>[(5,.sl 4 k 0 a.2.length)]) (λa k=>[(1,⟨131,2,true,true,w1_1,[[str a.1.s,aB a.1.bad]]⟩),(4,⟨29,9,true,true,k,a.2.map aF.av⟩)]) ⟨λj11 h2 h1=>?_,?_⟩
  refine tc aA 4 (.mk ?_)
  obtain ⟨p12,h2⟩:=cO h2
  obtain ⟨x13,e13,h2⟩:=aP h2
  obtain ⟨x14,e14,h2⟩:=aP h2
  refine bL rfl rfl rfl (aN rfl rfl (.cons rfl (.cons rfl .nil)) B5 (PC.mono (CJ (most:=16) (s:=((y2_3.s,y2_3.bad):RS)) (id:=1) (aD:=w1_1) rfl p12) (R':=λy H'=>y=int x13/\H'=upd _ 1 (some (dI 131 w1_1 x14))) (λy H' h=>⟨h.1.trans (congrArg int e13),h.2.trans (d9 e14)⟩))) ?_;rintro _ _ ⟨rfl,rfl⟩
  refine sY (yC (cs:=[int x13,int 0,int 0,int 0,int 0,int 0,int 0,int 0,.sc (.slice none 0 0)]) (ps:=[(0,_)]) rfl X9 z29 rfl (.cons rfl .nil) (by kernel_rfl)) ?_
  refine sA 2 z29 λv15=>?_
  refine sS ⟨29,9,true,true,v15,[[int x13,int 0,int 0,int 0,int 0,int 0,int 0,int 0,.sc (.slice none 0 0)]]⟩ fD ?_
  refine tr aA 2 (.mk ?_)
  obtain ⟨x16,e16,h2⟩:=aP h2
  cases x16
  replace h2:=cf h2
  obtain ⟨x17,e17,h2⟩:=aP h2
  cases x17
  replace h2:=cf h2
  obtain ⟨x18,e18,h2⟩:=aP h2
  cases x18
  replace h2:=cf h2
  obtain ⟨x19,e19,h2⟩:=aP h2
  cases x19
  replace h2:=cf h2
  obtain ⟨x20,e20,h2⟩:=aP h2
  cases x20
  replace h2:=cf h2
  obtain ⟨x21,e21,h2⟩:=aP h2
  cases x21
  replace h2:=cf h2
  obtain ⟨x22,e22,h2⟩:=aP h2
  cases x22
  replace h2:=cf h2
  obtain ⟨x23,e23,h2⟩:=aP h2
  cases x23
  replace h2:=cf h2
  obtain ⟨x24,e24,h2⟩:=aP h2
  cases x24
  replace h2:=cf h2
  obtain ⟨x25,e25,h2⟩:=aP h2
  cases x25
  replace h2:=cf h2
  obtain ⟨x26,e26,h2⟩:=aP h2
  cases x26
  replace h2:=cf h2
  obtain ⟨x27,e27,h2⟩:=aP h2
  cases x27
  replace h2:=cf h2
  obtain ⟨x28,e28,h2⟩:=aP h2
  cases x28
  replace h2:=cf h2
  obtain ⟨x29,e29,h2⟩:=aP h2
  cases x29
  replace h2:=cf h2
  obtain ⟨x30,e30,h2⟩:=aP h2
  cases x30
  replace h2:=cf h2
  obtain ⟨x31,e31,h2⟩:=aP h2
  cases x31
  replace h2:=cf h2
  obtain ⟨p32,h2⟩:=cO h2
  refine nD [0,0,2,7,15] (λi=>bif Nat.beq i 1 then ([2]) else bif Nat.beq i 2 then ([2]) else []) (λi=>[2]) 4 [0,1,2,3] mixed (by kernel_rfl) rfl rfl rfl rfl rfl rfl rfl rfl rfl rfl rfl rfl rfl Tryz.underlying9 ?_
  refine eP (λH hH=>gH rfl rfl .nil mP (bO.refl _) nK) ?_
  refine eF lW ?_
  refine eL bW ?_
  refine nO 23 (int 16) rfl (congrArg int p32) ?_
  refine lF rfl rfl rfl rfl (λH hH=>mR rfl Tryz.underlying88 mJ rfl rfl (by decide) rfl) ?_
  refine ⟨_,rfl,rfl,λb33=>?_⟩
  refine tc aA 13 (.mk ?_)
  refine sY (aH (y:=aB false) (aI rfl rfl rfl) (congrArg aB (by decide))) ?_
  refine tr aA 4 (.mk ?_)
  obtain ⟨j34,h3,h2⟩:=bJ h2
  refine bL (Out:=λy H'=>(∃ (a:Unit) (k:Unit),a=j34/\y=.pt 2 v15 0 1/\H'=hk [(1,⟨131,2,true,true,w1_1,[[str x14.1,aB x14.2]]⟩),(2,⟨29,9,true,true,v15,[[int x13,int 0,int 0,int 0,int 0,int 0,int 0,int 0,.sc (.slice none 0 0)]]⟩),(4,⟨29,9,true,true,w2_1,y2_4.map aF.av⟩)])) rfl rfl rfl (aN rfl rfl (.cons rfl (.cons rfl .nil)) eG ?_) ?_
  refine dD (c:=_) Tryz.func40 rfl rfl ?_;intro Q hret hnorm
  refine tc aA 12 (.mk ?_)
  refine sY (aH (y:=aB true) (aI rfl rfl rfl) (congrArg aB (by decide))) ?_
  refine tr aA 10 (.mk ?_)
  obtain rfl:=bE h3
  refine dM (hret _ _ (hk [(1,⟨131,2,true,true,w1_1,[[str x14.1,aB x14.2]]⟩),(2,⟨29,9,true,true,v15,[[int x13,int 0,int 0,int 0,int 0,int 0,int 0,int 0,.sc (.slice none 0 0)]]⟩),(4,⟨29,9,true,true,w2_1,y2_4.map aF.av⟩)]) (.tmp rfl .nil) (HK.le ⟨rfl,rfl,rfl,trivial⟩) ?_)
  exact ⟨(),(),rfl,rfl,rfl⟩
  rintro y _ ⟨_,_,rfl,hc,rfl⟩
  subst hc
  refine tr aA 1 (.mk ?_)
  obtain ⟨p35,h2⟩:=cO h2
  obtain ⟨x36,e36,h2⟩:=aP h2
  obtain ⟨x37,e37,h2⟩:=aP h2
  refine bL rfl rfl rfl (aN rfl rfl (.cons rfl .nil) fP (PC.mono (fH (s:=x14) (id:=1) (aD:=w1_1) rfl p35) (R':=λy H'=>y=int x36/\H'=upd _ 1 (some (dI 131 w1_1 x37))) (λy H' h=>⟨h.1.trans (congrArg int e36),h.2.trans (d9 e37)⟩))) ?_;rintro _ _ ⟨rfl,rfl⟩
  refine tr aA 1 (.mk ?_)
  refine sS ⟨29,9,true,true,v15,[[int x13,int x36,int 0,int 0,int 0,int 0,int 0,int 0,.sc (.slice none 0 0)]]⟩ bW ?_
  refine tr aA 8 (.mk ?_)
  refine jn h2 [2,3,4,5,6,15,16] [1,2,4] (λ(a:Bool) (k:Unit)=>[(45,aB a)]) (λa k=>[]) ⟨λj38 h3=>?_,?_⟩
  refine tc aA 2 (.mk ?_)
  refine sY (lV rfl rfl (.cons rfl .nil) mM (mF (s:=x37) (id:=1) (aD:=w1_1) rfl) (.sc _)) ?_
  refine tr aA 1 (.mk ?_)
  obtain ⟨x39,e39,h3⟩:=aP h3
  refine gX 40 (aB x39) rfl (congrArg aB e39) ?_
  refine gX 41 (aB x39) rfl (congrArg aB e39) ?_
  cases x39
  replace h3:=cf h3
  refine tr aA 1 (.mk ?_)
  obtain ⟨x40,e40,h3⟩:=bJ h3
  refine sY (gH rfl rfl (.cons rfl .nil) lM (.cons (bO.agg (.cons (.refl _) (.cons (.refl _) (.cons (.refl _) (.cons (.refl _) (.cons (.refl _) (.cons (.refl _) (.cons (.refl _) (.cons (.refl _) (.cons (.nil _) .nil)))))))))) .nil) (lS e40)) ?_
  refine nb aA h3 λx41 h3=>?_
  refine tr aA 2 (.mk ?_)
  exact lf h3 () aW
  replace h3:=ct h3
  refine tr aA 5 (.mk ?_)
  exact lf h3 () aW
  rintro y5_1 _ h2
  cases y5_1
  replace h2:=cf h2
  refine tc aA 5 (.mk ?_)
  refine sY (dQ (ps:=[(0,_)]) (rows:=[[int x13,int x36,int 0,int 0,int 0,int 0,int 0,int 0,.sc (.slice none 0 0)]]) rfl Tryz.underlying27 iC (.cons rfl .nil) (by kernel_rfl) rfl rfl rfl) ?_
  obtain ⟨x42,e42,h2⟩:=aP h2
  obtain ⟨p43,h2⟩:=cO h2
  refine bL rfl rfl rfl (iB (g:=aF.av) (l:=y2_4) (m:=[(⟨x13,x36,0,0,0,0,0,0,[]⟩:aF)]) .any rfl Tryz.underlying27 iC mZ rfl rfl rfl rfl rfl rfl rfl rfl rfl rfl (Eq.symm rfl) (fV.list (.cons (.cons (.refl _) (.cons (.refl _) (.cons (.refl _) (.cons (.refl _) (.cons (.refl _) (.cons (.refl _) (.cons (.refl _) (.cons (.refl _) (.cons (.nil _) .nil))))))))) .nil)) (λ_=>rfl) e42 p43) ?_;rintro _ _ ⟨v44,-,rfl,rfl⟩
  refine tr aA 3 (.mk ?_)
  exact jW h2 v44 aW
  replace h2:=ct h2
  refine tc aA 6 (.mk ?_)
  obtain ⟨c45,hX,hj⟩:=gD h2;subst hj;replace h1:=hX.trans (fZ h1)
  obtain ⟨c46,hX,hj⟩:=gD h1;subst hj;replace h0:=hX.trans (fZ h0)
  obtain rfl:=bE h0
  refine wR hret (rT (rT .nil)) ?_
  exact bO.aS (.cons (.nil _) (.cons (.refl _) .nil))
  replace h2:=ct h2
  refine nD [0,0,2,7,15] (λi=>bif Nat.beq i 1 then ([2]) else bif Nat.beq i 2 then ([2]) else []) (λi=>[2]) 4 [0,1,2,3] mixed (by kernel_rfl) rfl rfl rfl rfl rfl rfl rfl rfl rfl rfl rfl rfl rfl Tryz.underlying9 ?_
  refine eP (λH hH=>gH rfl rfl .nil mP (bO.refl _) nK) ?_
  refine eF lW ?_
  refine eL bW ?_
  refine nO 23 (int 15) rfl (congrArg int (of_decide_eq_true e31)) ?_
  refine lF rfl rfl rfl rfl (λH hH=>mR rfl Tryz.underlying88 mJ rfl rfl (by decide) rfl) ?_
  refine ⟨_,rfl,rfl,λb47=>?_⟩
  refine tc aA 13 (.mk ?_)
  refine sY (aH (y:=aB false) (aI rfl rfl rfl) (congrArg aB (by decide))) ?_
  refine tr aA 4 (.mk ?_)
  obtain ⟨j48,h3,h2⟩:=bJ h2
  refine bL (Out:=λy H'=>(∃ (a:Unit) (k:Unit),a=j48/\y=.pt 2 v15 0 1/\H'=hk [(1,⟨131,2,true,true,w1_1,[[str x14.1,aB x14.2]]⟩),(2,⟨29,9,true,true,v15,[[int x13,int 0,int 0,int 0,int 0,int 0,int 0,int 0,.sc (.slice none 0 0)]]⟩),(4,⟨29,9,true,true,w2_1,y2_4.map aF.av⟩)])) rfl rfl rfl (aN rfl rfl (.cons rfl (.cons rfl .nil)) eG ?_) ?_
  refine dD (c:=_) Tryz.func40 rfl rfl ?_;intro Q hret hnorm
  refine tc aA 12 (.mk ?_)
  refine sY (aH (y:=aB true) (aI rfl rfl rfl) (congrArg aB (by decide))) ?_
  refine tr aA 10 (.mk ?_)
  obtain rfl:=bE h3
  refine dM (hret _ _ (hk [(1,⟨131,2,true,true,w1_1,[[str x14.1,aB x14.2]]⟩),(2,⟨29,9,true,true,v15,[[int x13,int 0,int 0,int 0,int 0,int 0,int 0,int 0,.sc (.slice none 0 0)]]⟩),(4,⟨29,9,true,true,w2_1,y2_4.map aF.av⟩)]) (.tmp rfl .nil) (HK.le ⟨rfl,rfl,rfl,trivial⟩) ?_)
  exact ⟨(),(),rfl,rfl,rfl⟩
  rintro y _ ⟨_,_,rfl,hc,rfl⟩
  subst hc
  refine tr aA 1 (.mk ?_)
  obtain ⟨p49,h2⟩:=cO h2
  obtain ⟨x50,e50,h2⟩:=aP h2
  obtain ⟨x51,e51,h2⟩:=aP h2
  refine bL rfl rfl rfl (aN rfl rfl (.cons rfl .nil) fP (PC.mono (fH (s:=x14) (id:=1) (aD:=w1_1) rfl p49) (R':=λy H'=>y=int x50/\H'=upd _ 1 (some (dI 131 w1_1 x51))) (λy H' h=>⟨h.1.trans (congrArg int e50),h.2.trans (d9 e51)⟩))) ?_;rintro _ _ ⟨rfl,rfl⟩
  refine tr aA 1 (.mk ?_)
  refine sS ⟨29,9,true,true,v15,[[int x13,int x50,int 0,int 0,int 0,int 0,int 0,int 0,.sc (.slice none 0 0)]]⟩ bW ?_
  refine tr aA 8 (.mk ?_)
  refine jn h2 [2,3,4,5,6,15,16] [1,2,4] (λ(a:Bool) (k:Unit)=>[(45,aB a)]) (λa k=>[]) ⟨λj52 h3=>?_,?_⟩
  refine tc aA 2 (.mk ?_)
  refine sY (lV rfl rfl (.cons rfl .nil) mM (mF (s:=x51) (id:=1) (aD:=w1_1) rfl) (.sc _)) ?_
  refine tr aA 1 (.mk ?_)
  obtain ⟨x53,e53,h3⟩:=aP h3
  refine gX 40 (aB x53) rfl (congrArg aB e53) ?_
  refine gX 41 (aB x53) rfl (congrArg aB e53) ?_
  cases x53
  replace h3:=cf h3
  refine tr aA 1 (.mk ?_)
  obtain ⟨x54,e54,h3⟩:=bJ h3
  refine sY (gH rfl rfl (.cons rfl .nil) lM (.cons (bO.agg (.cons (.refl _) (.cons (.refl _) (.cons (.refl _) (.cons (.refl _) (.cons (.refl _) (.cons (.refl _) (.cons (.refl _) (.cons (.refl _) (.cons (.nil _) .nil)))))))))) .nil) (lS e54)) ?_
  refine nb aA h3 λx55 h3=>?_
  refine tr aA 2 (.mk ?_)
  exact lf h3 () aW
  replace h3:=ct h3
  refine tr aA 5 (.mk ?_)
  exact lf h3 () aW
  rintro y5_1 _ h2
  cases y5_1
  replace h2:=cf h2
  refine tc aA 5 (.mk ?_)
  refine sY (dQ (ps:=[(0,_)]) (rows:=[[int x13,int x50,int 0,int 0,int 0,int 0,int 0,int 0,.sc (.slice none 0 0)]]) rfl Tryz.underlying27 iC (.cons rfl .nil) (by kernel_rfl) rfl rfl rfl) ?_
  obtain ⟨x56,e56,h2⟩:=aP h2
  obtain ⟨p57,h2⟩:=cO h2
  refine bL rfl rfl rfl (iB (g:=aF.av) (l:=y2_4) (m:=[(⟨x13,x50,0,0,0,0,0,0,[]⟩:aF)]) .any rfl Tryz.underlying27 iC mZ rfl rfl rfl rfl rfl rfl rfl rfl rfl rfl (Eq.symm rfl) (fV.list (.cons (.cons (.refl _) (.cons (.refl _) (.cons (.refl _) (.cons (.refl _) (.cons (.refl _) (.cons (.refl _) (.cons (.refl _) (.cons (.refl _) (.cons (.nil _) .nil))))))))) .nil)) (λ_=>rfl) e56 p57) ?_;rintro _ _ ⟨v58,-,rfl,rfl⟩
  refine tr aA 3 (.mk ?_)
  exact jW h2 v58 aW
  replace h2:=ct h2
  refine tc aA 6 (.mk ?_)
  obtain ⟨c59,hX,hj⟩:=gD h2;subst hj;replace h1:=hX.trans (fZ h1)
  obtain ⟨c60,hX,hj⟩:=gD h1;subst hj;replace h0:=hX.trans (fZ h0)
  obtain rfl:=bE h0
  refine wR hret (rT (rT .nil)) ?_
  exact bO.aS (.cons (.nil _) (.cons (.refl _) .nil))
  replace h2:=ct h2
  refine nD [0,0,2,7,15] (λi=>bif Nat.beq i 1 then ([2]) else bif Nat.beq i 2 then ([2]) else []) (λi=>[2]) 4 [0,1,2,3] mixed (by kernel_rfl) rfl rfl rfl rfl rfl rfl rfl rfl rfl rfl rfl rfl rfl Tryz.underlying9 ?_
  refine eP (λH hH=>gH rfl rfl .nil mP (bO.refl _) nK) ?_
  refine eF lW ?_
  refine eL bW ?_
  refine nO 23 (int 14) rfl (congrArg int (of_decide_eq_true e30)) ?_
  refine lF rfl rfl rfl rfl (λH hH=>mR rfl Tryz.underlying88 mJ rfl rfl (by decide) rfl) ?_
  refine ⟨_,rfl,rfl,λb61=>?_⟩
  refine tc aA 13 (.mk ?_)
  refine sY (aH (y:=aB false) (aI rfl rfl rfl) (congrArg aB (by decide))) ?_
  refine tr aA 4 (.mk ?_)
  obtain ⟨j62,h3,h2⟩:=bJ h2
  refine bL (Out:=λy H'=>(∃ (a:Unit) (k:Unit),a=j62/\y=.pt 2 v15 0 1/\H'=hk [(1,⟨131,2,true,true,w1_1,[[str x14.1,aB x14.2]]⟩),(2,⟨29,9,true,true,v15,[[int x13,int 0,int 0,int 0,int 0,int 0,int 0,int 0,.sc (.slice none 0 0)]]⟩),(4,⟨29,9,true,true,w2_1,y2_4.map aF.av⟩)])) rfl rfl rfl (aN rfl rfl (.cons rfl (.cons rfl .nil)) eG ?_) ?_
  refine dD (c:=_) Tryz.func40 rfl rfl ?_;intro Q hret hnorm
  refine tc aA 12 (.mk ?_)
  refine sY (aH (y:=aB true) (aI rfl rfl rfl) (congrArg aB (by decide))) ?_
  refine tr aA 10 (.mk ?_)
  obtain rfl:=bE h3
  refine dM (hret _ _ (hk [(1,⟨131,2,true,true,w1_1,[[str x14.1,aB x14.2]]⟩),(2,⟨29,9,true,true,v15,[[int x13,int 0,int 0,int 0,int 0,int 0,int 0,int 0,.sc (.slice none 0 0)]]⟩),(4,⟨29,9,true,true,w2_1,y2_4.map aF.av⟩)]) (.tmp rfl .nil) (HK.le ⟨rfl,rfl,rfl,trivial⟩) ?_)
  exact ⟨(),(),rfl,rfl,rfl⟩
  rintro y _ ⟨_,_,rfl,hc,rfl⟩
  subst hc
  refine tr aA 1 (.mk ?_)
  obtain ⟨p63,h2⟩:=cO h2
  obtain ⟨x64,e64,h2⟩:=aP h2
  obtain ⟨x65,e65,h2⟩:=aP h2
  refine bL rfl rfl rfl (aN rfl rfl (.cons rfl .nil) fP (PC.mono (fH (s:=x14) (id:=1) (aD:=w1_1) rfl p63) (R':=λy H'=>y=int x64/\H'=upd _ 1 (some (dI 131 w1_1 x65))) (λy H' h=>⟨h.1.trans (congrArg int e64),h.2.trans (d9 e65)⟩))) ?_;rintro _ _ ⟨rfl,rfl⟩
  refine tr aA 1 (.mk ?_)
  refine sS ⟨29,9,true,true,v15,[[int x13,int x64,int 0,int 0,int 0,int 0,int 0,int 0,.sc (.slice none 0 0)]]⟩ bW ?_
  refine tr aA 8 (.mk ?_)
  refine jn h2 [2,3,4,5,6,15,16] [1,2,4] (λ(a:Bool) (k:Unit)=>[(45,aB a)]) (λa k=>[]) ⟨λj66 h3=>?_,?_⟩
  refine tc aA 2 (.mk ?_)
  refine sY (lV rfl rfl (.cons rfl .nil) mM (mF (s:=x65) (id:=1) (aD:=w1_1) rfl) (.sc _)) ?_
  refine tr aA 1 (.mk ?_)
  obtain ⟨x67,e67,h3⟩:=aP h3
  refine gX 40 (aB x67) rfl (congrArg aB e67) ?_
  refine gX 41 (aB x67) rfl (congrArg aB e67) ?_
  cases x67
  replace h3:=cf h3
  refine tr aA 1 (.mk ?_)
  obtain ⟨x68,e68,h3⟩:=bJ h3
  refine sY (gH rfl rfl (.cons rfl .nil) lM (.cons (bO.agg (.cons (.refl _) (.cons (.refl _) (.cons (.refl _) (.cons (.refl _) (.cons (.refl _) (.cons (.refl _) (.cons (.refl _) (.cons (.refl _) (.cons (.nil _) .nil)))))))))) .nil) (lS e68)) ?_
  refine nb aA h3 λx69 h3=>?_
  refine tr aA 2 (.mk ?_)
  exact lf h3 () aW
  replace h3:=ct h3
  refine tr aA 5 (.mk ?_)
  exact lf h3 () aW
  rintro y5_1 _ h2
  cases y5_1
  replace h2:=cf h2
  refine tc aA 5 (.mk ?_)
  refine sY (dQ (ps:=[(0,_)]) (rows:=[[int x13,int x64,int 0,int 0,int 0,int 0,int 0,int 0,.sc (.slice none 0 0)]]) rfl Tryz.underlying27 iC (.cons rfl .nil) (by kernel_rfl) rfl rfl rfl) ?_
  obtain ⟨x70,e70,h2⟩:=aP h2
  obtain ⟨p71,h2⟩:=cO h2
  refine bL rfl rfl rfl (iB (g:=aF.av) (l:=y2_4) (m:=[(⟨x13,x64,0,0,0,0,0,0,[]⟩:aF)]) .any rfl Tryz.underlying27 iC mZ rfl rfl rfl rfl rfl rfl rfl rfl rfl rfl (Eq.symm rfl) (fV.list (.cons (.cons (.refl _) (.cons (.refl _) (.cons (.refl _) (.cons (.refl _) (.cons (.refl _) (.cons (.refl _) (.cons (.refl _) (.cons (.refl _) (.cons (.nil _) .nil))))))))) .nil)) (λ_=>rfl) e70 p71) ?_;rintro _ _ ⟨v72,-,rfl,rfl⟩
  refine tr aA 3 (.mk ?_)
  exact jW h2 v72 aW
  replace h2:=ct h2
  refine tc aA 6 (.mk ?_)
  obtain ⟨c73,hX,hj⟩:=gD h2;subst hj;replace h1:=hX.trans (fZ h1)
  obtain ⟨c74,hX,hj⟩:=gD h1;subst hj;replace h0:=hX.trans (fZ h0)
  obtain rfl:=bE h0
  refine wR hret (rT (rT .nil)) ?_
  exact bO.aS (.cons (.nil _) (.cons (.refl _) .nil))
  replace h2:=ct h2
  refine nD [0,0,2,7,15] (λi=>bif Nat.beq i 1 then ([2]) else bif Nat.beq i 2 then ([2]) else []) (λi=>[2]) 4 [0,1,2,3] mixed (by kernel_rfl) rfl rfl rfl rfl rfl rfl rfl rfl rfl rfl rfl rfl rfl Tryz.underlying9 ?_
  refine eP (λH hH=>gH rfl rfl .nil mP (bO.refl _) nK) ?_
  refine eF lW ?_
  refine eL bW ?_
  refine nO 23 (int 13) rfl (congrArg int (of_decide_eq_true e29)) ?_
  refine lF rfl rfl rfl rfl (λH hH=>mR rfl Tryz.underlying88 mJ rfl rfl (by decide) rfl) ?_
  refine ⟨_,rfl,rfl,λb75=>?_⟩
  refine tc aA 13 (.mk ?_)
  refine sY (aH (y:=aB false) (aI rfl rfl rfl) (congrArg aB (by decide))) ?_
  refine tr aA 4 (.mk ?_)
  obtain ⟨j76,h3,h2⟩:=bJ h2
  refine bL (Out:=λy H'=>(∃ (a:Unit) (k:Unit),a=j76/\y=.pt 2 v15 0 3/\H'=hk [(1,⟨131,2,true,true,w1_1,[[str x14.1,aB x14.2]]⟩),(2,⟨29,9,true,true,v15,[[int x13,int 0,int 0,int 0,int 0,int 0,int 0,int 0,.sc (.slice none 0 0)]]⟩),(4,⟨29,9,true,true,w2_1,y2_4.map aF.av⟩)])) rfl rfl rfl (aN rfl rfl (.cons rfl (.cons rfl .nil)) eG ?_) ?_
  refine dD (c:=_) Tryz.func40 rfl rfl ?_;intro Q hret hnorm
  refine tc aA 12 (.mk ?_)
  refine sY (aH (y:=aB false) (aI rfl rfl rfl) (congrArg aB (by decide))) ?_
  refine tr aA 5 (.mk ?_)
  refine sY (aH (y:=aB false) (aI rfl rfl rfl) (congrArg aB (by decide))) ?_
  refine tr aA 5 (.mk ?_)
  refine sY (aH (y:=aB true) (aI rfl rfl rfl) (congrArg aB (by decide))) ?_
  refine tr aA 10 (.mk ?_)
  obtain rfl:=bE h3
  refine dM (hret _ _ (hk [(1,⟨131,2,true,true,w1_1,[[str x14.1,aB x14.2]]⟩),(2,⟨29,9,true,true,v15,[[int x13,int 0,int 0,int 0,int 0,int 0,int 0,int 0,.sc (.slice none 0 0)]]⟩),(4,⟨29,9,true,true,w2_1,y2_4.map aF.av⟩)]) (.tmp rfl .nil) (HK.le ⟨rfl,rfl,rfl,trivial⟩) ?_)
  exact ⟨(),(),rfl,rfl,rfl⟩
  rintro y _ ⟨_,_,rfl,hc,rfl⟩
  subst hc
  refine tr aA 1 (.mk ?_)
  obtain ⟨p77,h2⟩:=cO h2
  obtain ⟨x78,e78,h2⟩:=aP h2
  obtain ⟨x79,e79,h2⟩:=aP h2
  refine bL rfl rfl rfl (aN rfl rfl (.cons rfl .nil) fP (PC.mono (fH (s:=x14) (id:=1) (aD:=w1_1) rfl p77) (R':=λy H'=>y=int x78/\H'=upd _ 1 (some (dI 131 w1_1 x79))) (λy H' h=>⟨h.1.trans (congrArg int e78),h.2.trans (d9 e79)⟩))) ?_;rintro _ _ ⟨rfl,rfl⟩
  refine tr aA 1 (.mk ?_)
  refine sS ⟨29,9,true,true,v15,[[int x13,int 0,int 0,int x78,int 0,int 0,int 0,int 0,.sc (.slice none 0 0)]]⟩ bW ?_
  refine tr aA 15 (.mk ?_)
  refine sY (aH (y:=aB false) (aI rfl rfl rfl) (congrArg aB (by decide))) ?_
  refine tr aA 4 (.mk ?_)
  obtain ⟨j80,h3,h2⟩:=bJ h2
  refine bL (Out:=λy H'=>(∃ (a:Unit) (k:Unit),a=j80/\y=.pt 2 v15 0 5/\H'=hk [(1,⟨131,2,true,true,w1_1,[[str x79.1,aB x79.2]]⟩),(2,⟨29,9,true,true,v15,[[int x13,int 0,int 0,int x78,int 0,int 0,int 0,int 0,.sc (.slice none 0 0)]]⟩),(4,⟨29,9,true,true,w2_1,y2_4.map aF.av⟩)])) rfl rfl rfl (aN rfl rfl (.cons rfl (.cons rfl .nil)) eG ?_) ?_
  refine dD (c:=_) Tryz.func40 rfl rfl ?_;intro Q hret hnorm
  refine tc aA 12 (.mk ?_)
  refine sY (aH (y:=aB false) (aI rfl rfl rfl) (congrArg aB (by decide))) ?_
  refine tr aA 5 (.mk ?_)
  refine sY (aH (y:=aB false) (aI rfl rfl rfl) (congrArg aB (by decide))) ?_
  refine tr aA 5 (.mk ?_)
  refine sY (aH (y:=aB false) (aI rfl rfl rfl) (congrArg aB (by decide))) ?_
  refine tr aA 5 (.mk ?_)
  refine sY (aH (y:=aB false) (aI rfl rfl rfl) (congrArg aB (by decide))) ?_
  refine tr aA 5 (.mk ?_)
  refine sY (aH (y:=aB true) (aI rfl rfl rfl) (congrArg aB (by decide))) ?_
  refine tr aA 10 (.mk ?_)
  obtain rfl:=bE h3
  refine dM (hret _ _ (hk [(1,⟨131,2,true,true,w1_1,[[str x79.1,aB x79.2]]⟩),(2,⟨29,9,true,true,v15,[[int x13,int 0,int 0,int x78,int 0,int 0,int 0,int 0,.sc (.slice none 0 0)]]⟩),(4,⟨29,9,true,true,w2_1,y2_4.map aF.av⟩)]) (.tmp rfl .nil) (HK.le ⟨rfl,rfl,rfl,trivial⟩) ?_)
  exact ⟨(),(),rfl,rfl,rfl⟩
  rintro y _ ⟨_,_,rfl,hc,rfl⟩
  subst hc
  refine tr aA 1 (.mk ?_)
  obtain ⟨p81,h2⟩:=cO h2
  obtain ⟨x82,e82,h2⟩:=aP h2
  obtain ⟨x83,e83,h2⟩:=aP h2
  refine bL rfl rfl rfl (aN rfl rfl (.cons rfl .nil) fP (PC.mono (fH (s:=x79) (id:=1) (aD:=w1_1) rfl p81) (R':=λy H'=>y=int x82/\H'=upd _ 1 (some (dI 131 w1_1 x83))) (λy H' h=>⟨h.1.trans (congrArg int e82),h.2.trans (d9 e83)⟩))) ?_;rintro _ _ ⟨rfl,rfl⟩
  refine tr aA 1 (.mk ?_)
  refine sS ⟨29,9,true,true,v15,[[int x13,int 0,int 0,int x78,int 0,int x82,int 0,int 0,.sc (.slice none 0 0)]]⟩ bW ?_
  refine tr aA 15 (.mk ?_)
  refine sY (aH (y:=aB false) (aI rfl rfl rfl) (congrArg aB (by decide))) ?_
  refine tr aA 4 (.mk ?_)
  obtain ⟨j84,h3,h2⟩:=bJ h2
  refine bL (Out:=λy H'=>(∃ (a:Unit) (k:Unit),a=j84/\y=.pt 2 v15 0 7/\H'=hk [(1,⟨131,2,true,true,w1_1,[[str x83.1,aB x83.2]]⟩),(2,⟨29,9,true,true,v15,[[int x13,int 0,int 0,int x78,int 0,int x82,int 0,int 0,.sc (.slice none 0 0)]]⟩),(4,⟨29,9,true,true,w2_1,y2_4.map aF.av⟩)])) rfl rfl rfl (aN rfl rfl (.cons rfl (.cons rfl .nil)) eG ?_) ?_
  refine dD (c:=_) Tryz.func40 rfl rfl ?_;intro Q hret hnorm
  refine tc aA 12 (.mk ?_)
  refine sY (aH (y:=aB false) (aI rfl rfl rfl) (congrArg aB (by decide))) ?_
  refine tr aA 5 (.mk ?_)
  refine sY (aH (y:=aB false) (aI rfl rfl rfl) (congrArg aB (by decide))) ?_
  refine tr aA 5 (.mk ?_)
  refine sY (aH (y:=aB false) (aI rfl rfl rfl) (congrArg aB (by decide))) ?_
  refine tr aA 5 (.mk ?_)
  refine sY (aH (y:=aB false) (aI rfl rfl rfl) (congrArg aB (by decide))) ?_
  refine tr aA 5 (.mk ?_)
  refine sY (aH (y:=aB false) (aI rfl rfl rfl) (congrArg aB (by decide))) ?_
  refine tr aA 5 (.mk ?_)
  refine sY (aH (y:=aB false) (aI rfl rfl rfl) (congrArg aB (by decide))) ?_
  refine tr aA 12 (.mk ?_)
  obtain rfl:=bE h3
  refine dM (hret _ _ (hk [(1,⟨131,2,true,true,w1_1,[[str x83.1,aB x83.2]]⟩),(2,⟨29,9,true,true,v15,[[int x13,int 0,int 0,int x78,int 0,int x82,int 0,int 0,.sc (.slice none 0 0)]]⟩),(4,⟨29,9,true,true,w2_1,y2_4.map aF.av⟩)]) (.tmp rfl .nil) (HK.le ⟨rfl,rfl,rfl,trivial⟩) ?_)
  exact ⟨(),(),rfl,rfl,rfl⟩
  rintro y _ ⟨_,_,rfl,hc,rfl⟩
  subst hc
  refine tr aA 1 (.mk ?_)
  obtain ⟨p85,h2⟩:=cO h2
  obtain ⟨x86,e86,h2⟩:=aP h2
  obtain ⟨x87,e87,h2⟩:=aP h2
  refine bL rfl rfl rfl (aN rfl rfl (.cons rfl .nil) fP (PC.mono (fH (s:=x83) (id:=1) (aD:=w1_1) rfl p85) (R':=λy H'=>y=int x86/\H'=upd _ 1 (some (dI 131 w1_1 x87))) (λy H' h=>⟨h.1.trans (congrArg int e86),h.2.trans (d9 e87)⟩))) ?_;rintro _ _ ⟨rfl,rfl⟩
  refine tr aA 1 (.mk ?_)
  refine sS ⟨29,9,true,true,v15,[[int x13,int 0,int 0,int x78,int 0,int x82,int 0,int x86,.sc (.slice none 0 0)]]⟩ bW ?_
  refine tr aA 8 (.mk ?_)
  refine jn h2 [2,3,4,5,6,15,16] [1,2,4] (λ(a:Bool) (k:Unit)=>[(45,aB a)]) (λa k=>[]) ⟨λj88 h3=>?_,?_⟩
  refine tc aA 2 (.mk ?_)
  refine sY (lV rfl rfl (.cons rfl .nil) mM (mF (s:=x87) (id:=1) (aD:=w1_1) rfl) (.sc _)) ?_
  refine tr aA 1 (.mk ?_)
  obtain ⟨x89,e89,h3⟩:=aP h3
  refine gX 40 (aB x89) rfl (congrArg aB e89) ?_
  refine gX 41 (aB x89) rfl (congrArg aB e89) ?_
  cases x89
  replace h3:=cf h3
  refine tr aA 1 (.mk ?_)
  obtain ⟨x90,e90,h3⟩:=bJ h3
  refine sY (gH rfl rfl (.cons rfl .nil) lM (.cons (bO.agg (.cons (.refl _) (.cons (.refl _) (.cons (.refl _) (.cons (.refl _) (.cons (.refl _) (.cons (.refl _) (.cons (.refl _) (.cons (.refl _) (.cons (.nil _) .nil)))))))))) .nil) (lS e90)) ?_
  refine nb aA h3 λx91 h3=>?_
  refine tr aA 2 (.mk ?_)
  exact lf h3 () aW
  replace h3:=ct h3
  refine tr aA 5 (.mk ?_)
  exact lf h3 () aW
  rintro y5_1 _ h2
  cases y5_1
  replace h2:=cf h2
  refine tc aA 5 (.mk ?_)
  refine sY (dQ (ps:=[(0,_)]) (rows:=[[int x13,int 0,int 0,int x78,int 0,int x82,int 0,int x86,.sc (.slice none 0 0)]]) rfl Tryz.underlying27 iC (.cons rfl .nil) (by kernel_rfl) rfl rfl rfl) ?_
  obtain ⟨x92,e92,h2⟩:=aP h2
  obtain ⟨p93,h2⟩:=cO h2
  refine bL rfl rfl rfl (iB (g:=aF.av) (l:=y2_4) (m:=[(⟨x13,0,0,x78,0,x82,0,x86,[]⟩:aF)]) .any rfl Tryz.underlying27 iC mZ rfl rfl rfl rfl rfl rfl rfl rfl rfl rfl (Eq.symm rfl) (fV.list (.cons (.cons (.refl _) (.cons (.refl _) (.cons (.refl _) (.cons (.refl _) (.cons (.refl _) (.cons (.refl _) (.cons (.refl _) (.cons (.refl _) (.cons (.nil _) .nil))))))))) .nil)) (λ_=>rfl) e92 p93) ?_;rintro _ _ ⟨v94,-,rfl,rfl⟩
  refine tr aA 3 (.mk ?_)
  exact jW h2 v94 aW
  replace h2:=ct h2
  refine tc aA 6 (.mk ?_)
  obtain ⟨c95,hX,hj⟩:=gD h2;subst hj;replace h1:=hX.trans (fZ h1)
  obtain ⟨c96,hX,hj⟩:=gD h1;subst hj;replace h0:=hX.trans (fZ h0)
  obtain rfl:=bE h0
  refine wR hret (rT (rT .nil)) ?_
  exact bO.aS (.cons (.nil _) (.cons (.refl _) .nil))
  replace h2:=ct h2
  refine nD [0,0,2,7,15] (λi=>bif Nat.beq i 1 then ([2]) else bif Nat.beq i 2 then ([2]) else []) (λi=>[2]) 4 [0,1,2,3] mixed (by kernel_rfl) rfl rfl rfl rfl rfl rfl rfl rfl rfl rfl rfl rfl rfl Tryz.underlying9 ?_
  refine eP (λH hH=>gH rfl rfl .nil mP (bO.refl _) nK) ?_
  refine eF lW ?_
  refine eL bW ?_
  refine nO 23 (int 12) rfl (congrArg int (of_decide_eq_true e28)) ?_
  refine lF rfl rfl rfl rfl (λH hH=>mR rfl Tryz.underlying88 mJ rfl rfl (by decide) rfl) ?_
  refine ⟨_,rfl,rfl,λb97=>?_⟩
  refine tc aA 13 (.mk ?_)
  refine sY (aH (y:=aB false) (aI rfl rfl rfl) (congrArg aB (by decide))) ?_
  refine tr aA 4 (.mk ?_)
  obtain ⟨j98,h3,h2⟩:=bJ h2
  refine bL (Out:=λy H'=>(∃ (a:Unit) (k:Unit),a=j98/\y=.pt 2 v15 0 1/\H'=hk [(1,⟨131,2,true,true,w1_1,[[str x14.1,aB x14.2]]⟩),(2,⟨29,9,true,true,v15,[[int x13,int 0,int 0,int 0,int 0,int 0,int 0,int 0,.sc (.slice none 0 0)]]⟩),(4,⟨29,9,true,true,w2_1,y2_4.map aF.av⟩)])) rfl rfl rfl (aN rfl rfl (.cons rfl (.cons rfl .nil)) eG ?_) ?_
  refine dD (c:=_) Tryz.func40 rfl rfl ?_;intro Q hret hnorm
  refine tc aA 12 (.mk ?_)
  refine sY (aH (y:=aB true) (aI rfl rfl rfl) (congrArg aB (by decide))) ?_
  refine tr aA 10 (.mk ?_)
  obtain rfl:=bE h3
  refine dM (hret _ _ (hk [(1,⟨131,2,true,true,w1_1,[[str x14.1,aB x14.2]]⟩),(2,⟨29,9,true,true,v15,[[int x13,int 0,int 0,int 0,int 0,int 0,int 0,int 0,.sc (.slice none 0 0)]]⟩),(4,⟨29,9,true,true,w2_1,y2_4.map aF.av⟩)]) (.tmp rfl .nil) (HK.le ⟨rfl,rfl,rfl,trivial⟩) ?_)
  exact ⟨(),(),rfl,rfl,rfl⟩
  rintro y _ ⟨_,_,rfl,hc,rfl⟩
  subst hc
  refine tr aA 1 (.mk ?_)
  obtain ⟨p99,h2⟩:=cO h2
  obtain ⟨x100,e100,h2⟩:=aP h2
  obtain ⟨x101,e101,h2⟩:=aP h2
  refine bL rfl rfl rfl (aN rfl rfl (.cons rfl .nil) fP (PC.mono (fH (s:=x14) (id:=1) (aD:=w1_1) rfl p99) (R':=λy H'=>y=int x100/\H'=upd _ 1 (some (dI 131 w1_1 x101))) (λy H' h=>⟨h.1.trans (congrArg int e100),h.2.trans (d9 e101)⟩))) ?_;rintro _ _ ⟨rfl,rfl⟩
  refine tr aA 1 (.mk ?_)
  refine sS ⟨29,9,true,true,v15,[[int x13,int x100,int 0,int 0,int 0,int 0,int 0,int 0,.sc (.slice none 0 0)]]⟩ bW ?_
  refine tr aA 15 (.mk ?_)
  refine sY (aH (y:=aB false) (aI rfl rfl rfl) (congrArg aB (by decide))) ?_
  refine tr aA 4 (.mk ?_)
  obtain ⟨j102,h3,h2⟩:=bJ h2
  refine bL (Out:=λy H'=>(∃ (a:Unit) (k:Unit),a=j102/\y=.pt 2 v15 0 2/\H'=hk [(1,⟨131,2,true,true,w1_1,[[str x101.1,aB x101.2]]⟩),(2,⟨29,9,true,true,v15,[[int x13,int x100,int 0,int 0,int 0,int 0,int 0,int 0,.sc (.slice none 0 0)]]⟩),(4,⟨29,9,true,true,w2_1,y2_4.map aF.av⟩)])) rfl rfl rfl (aN rfl rfl (.cons rfl (.cons rfl .nil)) eG ?_) ?_
  refine dD (c:=_) Tryz.func40 rfl rfl ?_;intro Q hret hnorm
  refine tc aA 12 (.mk ?_)
  refine sY (aH (y:=aB false) (aI rfl rfl rfl) (congrArg aB (by decide))) ?_
  refine tr aA 5 (.mk ?_)
  refine sY (aH (y:=aB true) (aI rfl rfl rfl) (congrArg aB (by decide))) ?_
  refine tr aA 10 (.mk ?_)
  obtain rfl:=bE h3
  refine dM (hret _ _ (hk [(1,⟨131,2,true,true,w1_1,[[str x101.1,aB x101.2]]⟩),(2,⟨29,9,true,true,v15,[[int x13,int x100,int 0,int 0,int 0,int 0,int 0,int 0,.sc (.slice none 0 0)]]⟩),(4,⟨29,9,true,true,w2_1,y2_4.map aF.av⟩)]) (.tmp rfl .nil) (HK.le ⟨rfl,rfl,rfl,trivial⟩) ?_)
  exact ⟨(),(),rfl,rfl,rfl⟩
  rintro y _ ⟨_,_,rfl,hc,rfl⟩
  subst hc
  refine tr aA 1 (.mk ?_)
  obtain ⟨p103,h2⟩:=cO h2
  obtain ⟨x104,e104,h2⟩:=aP h2
  obtain ⟨x105,e105,h2⟩:=aP h2
  refine bL rfl rfl rfl (aN rfl rfl (.cons rfl .nil) fP (PC.mono (fH (s:=x101) (id:=1) (aD:=w1_1) rfl p103) (R':=λy H'=>y=int x104/\H'=upd _ 1 (some (dI 131 w1_1 x105))) (λy H' h=>⟨h.1.trans (congrArg int e104),h.2.trans (d9 e105)⟩))) ?_;rintro _ _ ⟨rfl,rfl⟩
  refine tr aA 1 (.mk ?_)
  refine sS ⟨29,9,true,true,v15,[[int x13,int x100,int x104,int 0,int 0,int 0,int 0,int 0,.sc (.slice none 0 0)]]⟩ bW ?_
  refine tr aA 15 (.mk ?_)
  refine sY (aH (y:=aB false) (aI rfl rfl rfl) (congrArg aB (by decide))) ?_
  refine tr aA 4 (.mk ?_)
  obtain ⟨j106,h3,h2⟩:=bJ h2
  refine bL (Out:=λy H'=>(∃ (a:Unit) (k:Unit),a=j106/\y=.pt 2 v15 0 3/\H'=hk [(1,⟨131,2,true,true,w1_1,[[str x105.1,aB x105.2]]⟩),(2,⟨29,9,true,true,v15,[[int x13,int x100,int x104,int 0,int 0,int 0,int 0,int 0,.sc (.slice none 0 0)]]⟩),(4,⟨29,9,true,true,w2_1,y2_4.map aF.av⟩)])) rfl rfl rfl (aN rfl rfl (.cons rfl (.cons rfl .nil)) eG ?_) ?_
  refine dD (c:=_) Tryz.func40 rfl rfl ?_;intro Q hret hnorm
  refine tc aA 12 (.mk ?_)
  refine sY (aH (y:=aB false) (aI rfl rfl rfl) (congrArg aB (by decide))) ?_
  refine tr aA 5 (.mk ?_)
  refine sY (aH (y:=aB false) (aI rfl rfl rfl) (congrArg aB (by decide))) ?_
  refine tr aA 5 (.mk ?_)
  refine sY (aH (y:=aB true) (aI rfl rfl rfl) (congrArg aB (by decide))) ?_
  refine tr aA 10 (.mk ?_)
  obtain rfl:=bE h3
  refine dM (hret _ _ (hk [(1,⟨131,2,true,true,w1_1,[[str x105.1,aB x105.2]]⟩),(2,⟨29,9,true,true,v15,[[int x13,int x100,int x104,int 0,int 0,int 0,int 0,int 0,.sc (.slice none 0 0)]]⟩),(4,⟨29,9,true,true,w2_1,y2_4.map aF.av⟩)]) (.tmp rfl .nil) (HK.le ⟨rfl,rfl,rfl,trivial⟩) ?_)
  exact ⟨(),(),rfl,rfl,rfl⟩
  rintro y _ ⟨_,_,rfl,hc,rfl⟩
  subst hc
  refine tr aA 1 (.mk ?_)
  obtain ⟨p107,h2⟩:=cO h2
  obtain ⟨x108,e108,h2⟩:=aP h2
  obtain ⟨x109,e109,h2⟩:=aP h2
  refine bL rfl rfl rfl (aN rfl rfl (.cons rfl .nil) fP (PC.mono (fH (s:=x105) (id:=1) (aD:=w1_1) rfl p107) (R':=λy H'=>y=int x108/\H'=upd _ 1 (some (dI 131 w1_1 x109))) (λy H' h=>⟨h.1.trans (congrArg int e108),h.2.trans (d9 e109)⟩))) ?_;rintro _ _ ⟨rfl,rfl⟩
  refine tr aA 1 (.mk ?_)
  refine sS ⟨29,9,true,true,v15,[[int x13,int x100,int x104,int x108,int 0,int 0,int 0,int 0,.sc (.slice none 0 0)]]⟩ bW ?_
  refine tr aA 15 (.mk ?_)
  refine sY (aH (y:=aB false) (aI rfl rfl rfl) (congrArg aB (by decide))) ?_
  refine tr aA 4 (.mk ?_)
  obtain ⟨j110,h3,h2⟩:=bJ h2
  refine bL (Out:=λy H'=>(∃ (a:Unit) (k:Unit),a=j110/\y=.pt 2 v15 0 4/\H'=hk [(1,⟨131,2,true,true,w1_1,[[str x109.1,aB x109.2]]⟩),(2,⟨29,9,true,true,v15,[[int x13,int x100,int x104,int x108,int 0,int 0,int 0,int 0,.sc (.slice none 0 0)]]⟩),(4,⟨29,9,true,true,w2_1,y2_4.map aF.av⟩)])) rfl rfl rfl (aN rfl rfl (.cons rfl (.cons rfl .nil)) eG ?_) ?_
  refine dD (c:=_) Tryz.func40 rfl rfl ?_;intro Q hret hnorm
  refine tc aA 12 (.mk ?_)
  refine sY (aH (y:=aB false) (aI rfl rfl rfl) (congrArg aB (by decide))) ?_
  refine tr aA 5 (.mk ?_)
  refine sY (aH (y:=aB false) (aI rfl rfl rfl) (congrArg aB (by decide))) ?_
  refine tr aA 5 (.mk ?_)
  refine sY (aH (y:=aB false) (aI rfl rfl rfl) (congrArg aB (by decide))) ?_
  refine tr aA 5 (.mk ?_)
  refine sY (aH (y:=aB true) (aI rfl rfl rfl) (congrArg aB (by decide))) ?_
  refine tr aA 10 (.mk ?_)
  obtain rfl:=bE h3
  refine dM (hret _ _ (hk [(1,⟨131,2,true,true,w1_1,[[str x109.1,aB x109.2]]⟩),(2,⟨29,9,true,true,v15,[[int x13,int x100,int x104,int x108,int 0,int 0,int 0,int 0,.sc (.slice none 0 0)]]⟩),(4,⟨29,9,true,true,w2_1,y2_4.map aF.av⟩)]) (.tmp rfl .nil) (HK.le ⟨rfl,rfl,rfl,trivial⟩) ?_)
  exact ⟨(),(),rfl,rfl,rfl⟩
  rintro y _ ⟨_,_,rfl,hc,rfl⟩
  subst hc
  refine tr aA 1 (.mk ?_)
  obtain ⟨p111,h2⟩:=cO h2
  obtain ⟨x112,e112,h2⟩:=aP h2
  obtain ⟨x113,e113,h2⟩:=aP h2
  refine bL rfl rfl rfl (aN rfl rfl (.cons rfl .nil) fP (PC.mono (fH (s:=x109) (id:=1) (aD:=w1_1) rfl p111) (R':=λy H'=>y=int x112/\H'=upd _ 1 (some (dI 131 w1_1 x113))) (λy H' h=>⟨h.1.trans (congrArg int e112),h.2.trans (d9 e113)⟩))) ?_;rintro _ _ ⟨rfl,rfl⟩
  refine tr aA 1 (.mk ?_)
  refine sS ⟨29,9,true,true,v15,[[int x13,int x100,int x104,int x108,int x112,int 0,int 0,int 0,.sc (.slice none 0 0)]]⟩ bW ?_
  refine tr aA 15 (.mk ?_)
  refine sY (aH (y:=aB false) (aI rfl rfl rfl) (congrArg aB (by decide))) ?_
  refine tr aA 4 (.mk ?_)
  obtain ⟨j114,h3,h2⟩:=bJ h2
  refine bL (Out:=λy H'=>(∃ (a:Unit) (k:Unit),a=j114/\y=.pt 2 v15 0 5/\H'=hk [(1,⟨131,2,true,true,w1_1,[[str x113.1,aB x113.2]]⟩),(2,⟨29,9,true,true,v15,[[int x13,int x100,int x104,int x108,int x112,int 0,int 0,int 0,.sc (.slice none 0 0)]]⟩),(4,⟨29,9,true,true,w2_1,y2_4.map aF.av⟩)])) rfl rfl rfl (aN rfl rfl (.cons rfl (.cons rfl .nil)) eG ?_) ?_
  refine dD (c:=_) Tryz.func40 rfl rfl ?_;intro Q hret hnorm
  refine tc aA 12 (.mk ?_)
  refine sY (aH (y:=aB false) (aI rfl rfl rfl) (congrArg aB (by decide))) ?_
  refine tr aA 5 (.mk ?_)
  refine sY (aH (y:=aB false) (aI rfl rfl rfl) (congrArg aB (by decide))) ?_
  refine tr aA 5 (.mk ?_)
  refine sY (aH (y:=aB false) (aI rfl rfl rfl) (congrArg aB (by decide))) ?_
  refine tr aA 5 (.mk ?_)
  refine sY (aH (y:=aB false) (aI rfl rfl rfl) (congrArg aB (by decide))) ?_
  refine tr aA 5 (.mk ?_)
  refine sY (aH (y:=aB true) (aI rfl rfl rfl) (congrArg aB (by decide))) ?_
  refine tr aA 10 (.mk ?_)
  obtain rfl:=bE h3
  refine dM (hret _ _ (hk [(1,⟨131,2,true,true,w1_1,[[str x113.1,aB x113.2]]⟩),(2,⟨29,9,true,true,v15,[[int x13,int x100,int x104,int x108,int x112,int 0,int 0,int 0,.sc (.slice none 0 0)]]⟩),(4,⟨29,9,true,true,w2_1,y2_4.map aF.av⟩)]) (.tmp rfl .nil) (HK.le ⟨rfl,rfl,rfl,trivial⟩) ?_)
  exact ⟨(),(),rfl,rfl,rfl⟩
  rintro y _ ⟨_,_,rfl,hc,rfl⟩
  subst hc
  refine tr aA 1 (.mk ?_)
  obtain ⟨p115,h2⟩:=cO h2
  obtain ⟨x116,e116,h2⟩:=aP h2
  obtain ⟨x117,e117,h2⟩:=aP h2
  refine bL rfl rfl rfl (aN rfl rfl (.cons rfl .nil) fP (PC.mono (fH (s:=x113) (id:=1) (aD:=w1_1) rfl p115) (R':=λy H'=>y=int x116/\H'=upd _ 1 (some (dI 131 w1_1 x117))) (λy H' h=>⟨h.1.trans (congrArg int e116),h.2.trans (d9 e117)⟩))) ?_;rintro _ _ ⟨rfl,rfl⟩
  refine tr aA 1 (.mk ?_)
  refine sS ⟨29,9,true,true,v15,[[int x13,int x100,int x104,int x108,int x112,int x116,int 0,int 0,.sc (.slice none 0 0)]]⟩ bW ?_
  refine tr aA 15 (.mk ?_)
  refine sY (aH (y:=aB false) (aI rfl rfl rfl) (congrArg aB (by decide))) ?_
  refine tr aA 4 (.mk ?_)
  obtain ⟨j118,h3,h2⟩:=bJ h2
  refine bL (Out:=λy H'=>(∃ (a:Unit) (k:Unit),a=j118/\y=.pt 2 v15 0 6/\H'=hk [(1,⟨131,2,true,true,w1_1,[[str x117.1,aB x117.2]]⟩),(2,⟨29,9,true,true,v15,[[int x13,int x100,int x104,int x108,int x112,int x116,int 0,int 0,.sc (.slice none 0 0)]]⟩),(4,⟨29,9,true,true,w2_1,y2_4.map aF.av⟩)])) rfl rfl rfl (aN rfl rfl (.cons rfl (.cons rfl .nil)) eG ?_) ?_
  refine dD (c:=_) Tryz.func40 rfl rfl ?_;intro Q hret hnorm
  refine tc aA 12 (.mk ?_)
  refine sY (aH (y:=aB false) (aI rfl rfl rfl) (congrArg aB (by decide))) ?_
  refine tr aA 5 (.mk ?_)
  refine sY (aH (y:=aB false) (aI rfl rfl rfl) (congrArg aB (by decide))) ?_
  refine tr aA 5 (.mk ?_)
  refine sY (aH (y:=aB false) (aI rfl rfl rfl) (congrArg aB (by decide))) ?_
  refine tr aA 5 (.mk ?_)
  refine sY (aH (y:=aB false) (aI rfl rfl rfl) (congrArg aB (by decide))) ?_
  refine tr aA 5 (.mk ?_)
  refine sY (aH (y:=aB false) (aI rfl rfl rfl) (congrArg aB (by decide))) ?_
  refine tr aA 5 (.mk ?_)
  refine sY (aH (y:=aB true) (aI rfl rfl rfl) (congrArg aB (by decide))) ?_
  refine tr aA 10 (.mk ?_)
  obtain rfl:=bE h3
  refine dM (hret _ _ (hk [(1,⟨131,2,true,true,w1_1,[[str x117.1,aB x117.2]]⟩),(2,⟨29,9,true,true,v15,[[int x13,int x100,int x104,int x108,int x112,int x116,int 0,int 0,.sc (.slice none 0 0)]]⟩),(4,⟨29,9,true,true,w2_1,y2_4.map aF.av⟩)]) (.tmp rfl .nil) (HK.le ⟨rfl,rfl,rfl,trivial⟩) ?_)
  exact ⟨(),(),rfl,rfl,rfl⟩
  rintro y _ ⟨_,_,rfl,hc,rfl⟩
  subst hc
  refine tr aA 1 (.mk ?_)
  obtain ⟨p119,h2⟩:=cO h2
  obtain ⟨x120,e120,h2⟩:=aP h2
  obtain ⟨x121,e121,h2⟩:=aP h2
  refine bL rfl rfl rfl (aN rfl rfl (.cons rfl .nil) fP (PC.mono (fH (s:=x117) (id:=1) (aD:=w1_1) rfl p119) (R':=λy H'=>y=int x120/\H'=upd _ 1 (some (dI 131 w1_1 x121))) (λy H' h=>⟨h.1.trans (congrArg int e120),h.2.trans (d9 e121)⟩))) ?_;rintro _ _ ⟨rfl,rfl⟩
  refine tr aA 1 (.mk ?_)
  refine sS ⟨29,9,true,true,v15,[[int x13,int x100,int x104,int x108,int x112,int x116,int x120,int 0,.sc (.slice none 0 0)]]⟩ bW ?_
  refine tr aA 8 (.mk ?_)
  refine jn h2 [2,3,4,5,6,15,16] [1,2,4] (λ(a:Bool) (k:Unit)=>[(45,aB a)]) (λa k=>[]) ⟨λj122 h3=>?_,?_⟩
  refine tc aA 2 (.mk ?_)
  refine sY (lV rfl rfl (.cons rfl .nil) mM (mF (s:=x121) (id:=1) (aD:=w1_1) rfl) (.sc _)) ?_
  refine tr aA 1 (.mk ?_)
  obtain ⟨x123,e123,h3⟩:=aP h3
  refine gX 40 (aB x123) rfl (congrArg aB e123) ?_
  refine gX 41 (aB x123) rfl (congrArg aB e123) ?_
  cases x123
  replace h3:=cf h3
  refine tr aA 1 (.mk ?_)
  obtain ⟨x124,e124,h3⟩:=bJ h3
  refine sY (gH rfl rfl (.cons rfl .nil) lM (.cons (bO.agg (.cons (.refl _) (.cons (.refl _) (.cons (.refl _) (.cons (.refl _) (.cons (.refl _) (.cons (.refl _) (.cons (.refl _) (.cons (.refl _) (.cons (.nil _) .nil)))))))))) .nil) (lS e124)) ?_
  refine nb aA h3 λx125 h3=>?_
  refine tr aA 2 (.mk ?_)
  exact lf h3 () aW
  replace h3:=ct h3
  refine tr aA 5 (.mk ?_)
  exact lf h3 () aW
  rintro y5_1 _ h2
  cases y5_1
  replace h2:=cf h2
  refine tc aA 5 (.mk ?_)
  refine sY (dQ (ps:=[(0,_)]) (rows:=[[int x13,int x100,int x104,int x108,int x112,int x116,int x120,int 0,.sc (.slice none 0 0)]]) rfl Tryz.underlying27 iC (.cons rfl .nil) (by kernel_rfl) rfl rfl rfl) ?_
  obtain ⟨x126,e126,h2⟩:=aP h2
  obtain ⟨p127,h2⟩:=cO h2
  refine bL rfl rfl rfl (iB (g:=aF.av) (l:=y2_4) (m:=[(⟨x13,x100,x104,x108,x112,x116,x120,0,[]⟩:aF)]) .any rfl Tryz.underlying27 iC mZ rfl rfl rfl rfl rfl rfl rfl rfl rfl rfl (Eq.symm rfl) (fV.list (.cons (.cons (.refl _) (.cons (.refl _) (.cons (.refl _) (.cons (.refl _) (.cons (.refl _) (.cons (.refl _) (.cons (.refl _) (.cons (.refl _) (.cons (.nil _) .nil))))))))) .nil)) (λ_=>rfl) e126 p127) ?_;rintro _ _ ⟨v128,-,rfl,rfl⟩
  refine tr aA 3 (.mk ?_)
  exact jW h2 v128 aW
  replace h2:=ct h2
  refine tc aA 6 (.mk ?_)
  obtain ⟨c129,hX,hj⟩:=gD h2;subst hj;replace h1:=hX.trans (fZ h1)
  obtain ⟨c130,hX,hj⟩:=gD h1;subst hj;replace h0:=hX.trans (fZ h0)
  obtain rfl:=bE h0
  refine wR hret (rT (rT .nil)) ?_
  exact bO.aS (.cons (.nil _) (.cons (.refl _) .nil))
  replace h2:=ct h2
  refine nD [0,0,2,7,15] (λi=>bif Nat.beq i 1 then ([2]) else bif Nat.beq i 2 then ([2]) else []) (λi=>[2]) 4 [0,1,2,3] mixed (by kernel_rfl) rfl rfl rfl rfl rfl rfl rfl rfl rfl rfl rfl rfl rfl Tryz.underlying9 ?_
  refine eP (λH hH=>gH rfl rfl .nil mP (bO.refl _) nK) ?_
  refine eF lW ?_
  refine eL bW ?_
  refine nO 23 (int 11) rfl (congrArg int (of_decide_eq_true e27)) ?_
  refine lF rfl rfl rfl rfl (λH hH=>mR rfl Tryz.underlying88 mJ rfl rfl (by decide) rfl) ?_
  refine ⟨_,rfl,rfl,λb131=>?_⟩
  refine tc aA 13 (.mk ?_)
  refine sY (aH (y:=aB false) (aI rfl rfl rfl) (congrArg aB (by decide))) ?_
  refine tr aA 4 (.mk ?_)
  obtain ⟨j132,h3,h2⟩:=bJ h2
  refine bL (Out:=λy H'=>(∃ (a:Unit) (k:Unit),a=j132/\y=.pt 2 v15 0 4/\H'=hk [(1,⟨131,2,true,true,w1_1,[[str x14.1,aB x14.2]]⟩),(2,⟨29,9,true,true,v15,[[int x13,int 0,int 0,int 0,int 0,int 0,int 0,int 0,.sc (.slice none 0 0)]]⟩),(4,⟨29,9,true,true,w2_1,y2_4.map aF.av⟩)])) rfl rfl rfl (aN rfl rfl (.cons rfl (.cons rfl .nil)) eG ?_) ?_
  refine dD (c:=_) Tryz.func40 rfl rfl ?_;intro Q hret hnorm
  refine tc aA 12 (.mk ?_)
  refine sY (aH (y:=aB false) (aI rfl rfl rfl) (congrArg aB (by decide))) ?_
  refine tr aA 5 (.mk ?_)
  refine sY (aH (y:=aB false) (aI rfl rfl rfl) (congrArg aB (by decide))) ?_
  refine tr aA 5 (.mk ?_)
  refine sY (aH (y:=aB false) (aI rfl rfl rfl) (congrArg aB (by decide))) ?_
  refine tr aA 5 (.mk ?_)
  refine sY (aH (y:=aB true) (aI rfl rfl rfl) (congrArg aB (by decide))) ?_
  refine tr aA 10 (.mk ?_)
  obtain rfl:=bE h3
  refine dM (hret _ _ (hk [(1,⟨131,2,true,true,w1_1,[[str x14.1,aB x14.2]]⟩),(2,⟨29,9,true,true,v15,[[int x13,int 0,int 0,int 0,int 0,int 0,int 0,int 0,.sc (.slice none 0 0)]]⟩),(4,⟨29,9,true,true,w2_1,y2_4.map aF.av⟩)]) (.tmp rfl .nil) (HK.le ⟨rfl,rfl,rfl,trivial⟩) ?_)
  exact ⟨(),(),rfl,rfl,rfl⟩
  rintro y _ ⟨_,_,rfl,hc,rfl⟩
  subst hc
  refine tr aA 1 (.mk ?_)
  obtain ⟨p133,h2⟩:=cO h2
  obtain ⟨x134,e134,h2⟩:=aP h2
  obtain ⟨x135,e135,h2⟩:=aP h2
  refine bL rfl rfl rfl (aN rfl rfl (.cons rfl .nil) fP (PC.mono (fH (s:=x14) (id:=1) (aD:=w1_1) rfl p133) (R':=λy H'=>y=int x134/\H'=upd _ 1 (some (dI 131 w1_1 x135))) (λy H' h=>⟨h.1.trans (congrArg int e134),h.2.trans (d9 e135)⟩))) ?_;rintro _ _ ⟨rfl,rfl⟩
  refine tr aA 1 (.mk ?_)
  refine sS ⟨29,9,true,true,v15,[[int x13,int 0,int 0,int 0,int x134,int 0,int 0,int 0,.sc (.slice none 0 0)]]⟩ bW ?_
  refine tr aA 15 (.mk ?_)
  refine sY (aH (y:=aB false) (aI rfl rfl rfl) (congrArg aB (by decide))) ?_
  refine tr aA 4 (.mk ?_)
  obtain ⟨j136,h3,h2⟩:=bJ h2
  refine bL (Out:=λy H'=>(∃ (a:Unit) (k:Unit),a=j136/\y=.pt 2 v15 0 6/\H'=hk [(1,⟨131,2,true,true,w1_1,[[str x135.1,aB x135.2]]⟩),(2,⟨29,9,true,true,v15,[[int x13,int 0,int 0,int 0,int x134,int 0,int 0,int 0,.sc (.slice none 0 0)]]⟩),(4,⟨29,9,true,true,w2_1,y2_4.map aF.av⟩)])) rfl rfl rfl (aN rfl rfl (.cons rfl (.cons rfl .nil)) eG ?_) ?_
  refine dD (c:=_) Tryz.func40 rfl rfl ?_;intro Q hret hnorm
  refine tc aA 12 (.mk ?_)
  refine sY (aH (y:=aB false) (aI rfl rfl rfl) (congrArg aB (by decide))) ?_
  refine tr aA 5 (.mk ?_)
  refine sY (aH (y:=aB false) (aI rfl rfl rfl) (congrArg aB (by decide))) ?_
  refine tr aA 5 (.mk ?_)
  refine sY (aH (y:=aB false) (aI rfl rfl rfl) (congrArg aB (by decide))) ?_
  refine tr aA 5 (.mk ?_)
  refine sY (aH (y:=aB false) (aI rfl rfl rfl) (congrArg aB (by decide))) ?_
  refine tr aA 5 (.mk ?_)
  refine sY (aH (y:=aB false) (aI rfl rfl rfl) (congrArg aB (by decide))) ?_
  refine tr aA 5 (.mk ?_)
  refine sY (aH (y:=aB true) (aI rfl rfl rfl) (congrArg aB (by decide))) ?_
  refine tr aA 10 (.mk ?_)
  obtain rfl:=bE h3
  refine dM (hret _ _ (hk [(1,⟨131,2,true,true,w1_1,[[str x135.1,aB x135.2]]⟩),(2,⟨29,9,true,true,v15,[[int x13,int 0,int 0,int 0,int x134,int 0,int 0,int 0,.sc (.slice none 0 0)]]⟩),(4,⟨29,9,true,true,w2_1,y2_4.map aF.av⟩)]) (.tmp rfl .nil) (HK.le ⟨rfl,rfl,rfl,trivial⟩) ?_)
  exact ⟨(),(),rfl,rfl,rfl⟩
  rintro y _ ⟨_,_,rfl,hc,rfl⟩
  subst hc
  refine tr aA 1 (.mk ?_)
  obtain ⟨p137,h2⟩:=cO h2
  obtain ⟨x138,e138,h2⟩:=aP h2
  obtain ⟨x139,e139,h2⟩:=aP h2
  refine bL rfl rfl rfl (aN rfl rfl (.cons rfl .nil) fP (PC.mono (fH (s:=x135) (id:=1) (aD:=w1_1) rfl p137) (R':=λy H'=>y=int x138/\H'=upd _ 1 (some (dI 131 w1_1 x139))) (λy H' h=>⟨h.1.trans (congrArg int e138),h.2.trans (d9 e139)⟩))) ?_;rintro _ _ ⟨rfl,rfl⟩
  refine tr aA 1 (.mk ?_)
  refine sS ⟨29,9,true,true,v15,[[int x13,int 0,int 0,int 0,int x134,int 0,int x138,int 0,.sc (.slice none 0 0)]]⟩ bW ?_
  refine tr aA 15 (.mk ?_)
  refine sY (aH (y:=aB true) (aI rfl rfl rfl) (congrArg aB (by decide))) ?_
  refine tr aA 4 (.mk ?_)
  obtain ⟨p140,h2⟩:=cO h2
  obtain ⟨p141,h2⟩:=cO h2
  obtain ⟨x142,e142,h2⟩:=aP h2
  obtain ⟨x143,e143,h2⟩:=aP h2
  refine bL rfl rfl rfl (aN rfl rfl (.cons rfl (.cons rfl .nil)) G7 (PC.mono (FZ (most:=40) (s:=x139) (id:=1) (aD:=w1_1) rfl p140 p141 rfl rfl) (R':=λy H'=>y=ints x142/\H'=upd _ 1 (some (dI 131 w1_1 x143))) (λy H' h=>⟨h.1.trans (congrArg ints e142),h.2.trans (d9 e143)⟩))) ?_;rintro _ _ ⟨rfl,rfl⟩
  refine tr aA 1 (.mk ?_)
  refine sS ⟨29,9,true,true,v15,[[int x13,int 0,int 0,int 0,int x134,int 0,int x138,int 0,aG 1 fI x142]]⟩ vD ?_
  refine tr aA 8 (.mk ?_)
  refine jn h2 [2,3,4,5,6,15,16] [1,2,4] (λ(a:Bool) (k:Unit)=>[(45,aB a)]) (λa k=>[]) ⟨λj144 h3=>?_,?_⟩
  refine tc aA 2 (.mk ?_)
  refine sY (lV rfl rfl (.cons rfl .nil) mM (mF (s:=x143) (id:=1) (aD:=w1_1) rfl) (.sc _)) ?_
  refine tr aA 1 (.mk ?_)
  obtain ⟨x145,e145,h3⟩:=aP h3
  refine gX 40 (aB x145) rfl (congrArg aB e145) ?_
  refine gX 41 (aB x145) rfl (congrArg aB e145) ?_
  cases x145
  replace h3:=cf h3
  refine tr aA 1 (.mk ?_)
  obtain ⟨x146,e146,h3⟩:=bJ h3
  refine sC lM (lS e146) ?_
  refine nb aA h3 λx147 h3=>?_
  refine tr aA 2 (.mk ?_)
  exact lf h3 () aW
  replace h3:=ct h3
  refine tr aA 5 (.mk ?_)
  exact lf h3 () aW
  rintro y5_1 _ h2
  cases y5_1
  replace h2:=cf h2
  refine tc aA 5 (.mk ?_)
  refine sY (aH (y:=aG 9 aF.av ([(⟨x13,0,0,0,x134,0,x138,0,x142⟩:aF)]:List aF)) (dQ (ps:=[(0,_)]) (rows:=[[int x13,int 0,int 0,int 0,int x134,int 0,int x138,int 0,aG 1 fI x142]]) rfl Tryz.underlying27 iC (.cons rfl .nil) (by kernel_rfl) rfl rfl rfl) rfl) ?_
  obtain ⟨x148,e148,h2⟩:=aP h2
  obtain ⟨p149,h2⟩:=cO h2
  refine bL rfl rfl rfl (iB (g:=aF.av) (l:=y2_4) (m:=([(⟨x13,0,0,0,x134,0,x138,0,x142⟩:aF)]:List aF)) .any rfl Tryz.underlying27 iC mZ rfl rfl rfl rfl rfl rfl rfl rfl rfl rfl (Eq.symm rfl) (.refl _) (λ_=>rfl) e148 p149) ?_;rintro _ _ ⟨v150,-,rfl,rfl⟩
  refine tr aA 3 (.mk ?_)
  exact jW h2 v150 aW
  replace h2:=ct h2
  refine tc aA 6 (.mk ?_)
  obtain ⟨c151,hX,hj⟩:=gD h2;subst hj;replace h1:=hX.trans (fZ h1)
  obtain ⟨c152,hX,hj⟩:=gD h1;subst hj;replace h0:=hX.trans (fZ h0)
  obtain rfl:=bE h0
  refine wR hret (rT (rT .nil)) ?_
  exact bO.aS (.cons (.nil _) (.cons (.refl _) .nil))
  replace h2:=ct h2
  refine nD [0,0,2,7,15] (λi=>bif Nat.beq i 1 then ([2]) else bif Nat.beq i 2 then ([2]) else []) (λi=>[2]) 4 [0,1,2,3] mixed (by kernel_rfl) rfl rfl rfl rfl rfl rfl rfl rfl rfl rfl rfl rfl rfl Tryz.underlying9 ?_
  refine eP (λH hH=>gH rfl rfl .nil mP (bO.refl _) nK) ?_
  refine eF lW ?_
  refine eL bW ?_
  refine nO 23 (int 10) rfl (congrArg int (of_decide_eq_true e26)) ?_
  refine lF rfl rfl rfl rfl (λH hH=>mR rfl Tryz.underlying88 mJ rfl rfl (by decide) rfl) ?_
  refine ⟨_,rfl,rfl,λb153=>?_⟩
  refine tc aA 13 (.mk ?_)
  refine sY (aH (y:=aB false) (aI rfl rfl rfl) (congrArg aB (by decide))) ?_
  refine tr aA 4 (.mk ?_)
  obtain ⟨j154,h3,h2⟩:=bJ h2
  refine bL (Out:=λy H'=>(∃ (a:Unit) (k:Unit),a=j154/\y=.pt 2 v15 0 1/\H'=hk [(1,⟨131,2,true,true,w1_1,[[str x14.1,aB x14.2]]⟩),(2,⟨29,9,true,true,v15,[[int x13,int 0,int 0,int 0,int 0,int 0,int 0,int 0,.sc (.slice none 0 0)]]⟩),(4,⟨29,9,true,true,w2_1,y2_4.map aF.av⟩)])) rfl rfl rfl (aN rfl rfl (.cons rfl (.cons rfl .nil)) eG ?_) ?_
  refine dD (c:=_) Tryz.func40 rfl rfl ?_;intro Q hret hnorm
  refine tc aA 12 (.mk ?_)
  refine sY (aH (y:=aB true) (aI rfl rfl rfl) (congrArg aB (by decide))) ?_
  refine tr aA 10 (.mk ?_)
  obtain rfl:=bE h3
  refine dM (hret _ _ (hk [(1,⟨131,2,true,true,w1_1,[[str x14.1,aB x14.2]]⟩),(2,⟨29,9,true,true,v15,[[int x13,int 0,int 0,int 0,int 0,int 0,int 0,int 0,.sc (.slice none 0 0)]]⟩),(4,⟨29,9,true,true,w2_1,y2_4.map aF.av⟩)]) (.tmp rfl .nil) (HK.le ⟨rfl,rfl,rfl,trivial⟩) ?_)
  exact ⟨(),(),rfl,rfl,rfl⟩
  rintro y _ ⟨_,_,rfl,hc,rfl⟩
  subst hc
  refine tr aA 1 (.mk ?_)
  obtain ⟨p155,h2⟩:=cO h2
  obtain ⟨x156,e156,h2⟩:=aP h2
  obtain ⟨x157,e157,h2⟩:=aP h2
  refine bL rfl rfl rfl (aN rfl rfl (.cons rfl .nil) fP (PC.mono (fH (s:=x14) (id:=1) (aD:=w1_1) rfl p155) (R':=λy H'=>y=int x156/\H'=upd _ 1 (some (dI 131 w1_1 x157))) (λy H' h=>⟨h.1.trans (congrArg int e156),h.2.trans (d9 e157)⟩))) ?_;rintro _ _ ⟨rfl,rfl⟩
  refine tr aA 1 (.mk ?_)
  refine sS ⟨29,9,true,true,v15,[[int x13,int x156,int 0,int 0,int 0,int 0,int 0,int 0,.sc (.slice none 0 0)]]⟩ bW ?_
  refine tr aA 15 (.mk ?_)
  refine sY (aH (y:=aB false) (aI rfl rfl rfl) (congrArg aB (by decide))) ?_
  refine tr aA 4 (.mk ?_)
  obtain ⟨j158,h3,h2⟩:=bJ h2
  refine bL (Out:=λy H'=>(∃ (a:Unit) (k:Unit),a=j158/\y=.pt 2 v15 0 2/\H'=hk [(1,⟨131,2,true,true,w1_1,[[str x157.1,aB x157.2]]⟩),(2,⟨29,9,true,true,v15,[[int x13,int x156,int 0,int 0,int 0,int 0,int 0,int 0,.sc (.slice none 0 0)]]⟩),(4,⟨29,9,true,true,w2_1,y2_4.map aF.av⟩)])) rfl rfl rfl (aN rfl rfl (.cons rfl (.cons rfl .nil)) eG ?_) ?_
  refine dD (c:=_) Tryz.func40 rfl rfl ?_;intro Q hret hnorm
  refine tc aA 12 (.mk ?_)
  refine sY (aH (y:=aB false) (aI rfl rfl rfl) (congrArg aB (by decide))) ?_
  refine tr aA 5 (.mk ?_)
  refine sY (aH (y:=aB true) (aI rfl rfl rfl) (congrArg aB (by decide))) ?_
  refine tr aA 10 (.mk ?_)
  obtain rfl:=bE h3
  refine dM (hret _ _ (hk [(1,⟨131,2,true,true,w1_1,[[str x157.1,aB x157.2]]⟩),(2,⟨29,9,true,true,v15,[[int x13,int x156,int 0,int 0,int 0,int 0,int 0,int 0,.sc (.slice none 0 0)]]⟩),(4,⟨29,9,true,true,w2_1,y2_4.map aF.av⟩)]) (.tmp rfl .nil) (HK.le ⟨rfl,rfl,rfl,trivial⟩) ?_)
  exact ⟨(),(),rfl,rfl,rfl⟩
  rintro y _ ⟨_,_,rfl,hc,rfl⟩
  subst hc
  refine tr aA 1 (.mk ?_)
  obtain ⟨p159,h2⟩:=cO h2
  obtain ⟨x160,e160,h2⟩:=aP h2
  obtain ⟨x161,e161,h2⟩:=aP h2
  refine bL rfl rfl rfl (aN rfl rfl (.cons rfl .nil) fP (PC.mono (fH (s:=x157) (id:=1) (aD:=w1_1) rfl p159) (R':=λy H'=>y=int x160/\H'=upd _ 1 (some (dI 131 w1_1 x161))) (λy H' h=>⟨h.1.trans (congrArg int e160),h.2.trans (d9 e161)⟩))) ?_;rintro _ _ ⟨rfl,rfl⟩
  refine tr aA 1 (.mk ?_)
  refine sS ⟨29,9,true,true,v15,[[int x13,int x156,int x160,int 0,int 0,int 0,int 0,int 0,.sc (.slice none 0 0)]]⟩ bW ?_
  refine tr aA 15 (.mk ?_)
  refine sY (aH (y:=aB false) (aI rfl rfl rfl) (congrArg aB (by decide))) ?_
  refine tr aA 4 (.mk ?_)
  obtain ⟨j162,h3,h2⟩:=bJ h2
  refine bL (Out:=λy H'=>(∃ (a:Unit) (k:Unit),a=j162/\y=.pt 2 v15 0 6/\H'=hk [(1,⟨131,2,true,true,w1_1,[[str x161.1,aB x161.2]]⟩),(2,⟨29,9,true,true,v15,[[int x13,int x156,int x160,int 0,int 0,int 0,int 0,int 0,.sc (.slice none 0 0)]]⟩),(4,⟨29,9,true,true,w2_1,y2_4.map aF.av⟩)])) rfl rfl rfl (aN rfl rfl (.cons rfl (.cons rfl .nil)) eG ?_) ?_
  refine dD (c:=_) Tryz.func40 rfl rfl ?_;intro Q hret hnorm
  refine tc aA 12 (.mk ?_)
  refine sY (aH (y:=aB false) (aI rfl rfl rfl) (congrArg aB (by decide))) ?_
  refine tr aA 5 (.mk ?_)
  refine sY (aH (y:=aB false) (aI rfl rfl rfl) (congrArg aB (by decide))) ?_
  refine tr aA 5 (.mk ?_)
  refine sY (aH (y:=aB false) (aI rfl rfl rfl) (congrArg aB (by decide))) ?_
  refine tr aA 5 (.mk ?_)
  refine sY (aH (y:=aB false) (aI rfl rfl rfl) (congrArg aB (by decide))) ?_
  refine tr aA 5 (.mk ?_)
  refine sY (aH (y:=aB false) (aI rfl rfl rfl) (congrArg aB (by decide))) ?_
  refine tr aA 5 (.mk ?_)
  refine sY (aH (y:=aB true) (aI rfl rfl rfl) (congrArg aB (by decide))) ?_
  refine tr aA 10 (.mk ?_)
  obtain rfl:=bE h3
  refine dM (hret _ _ (hk [(1,⟨131,2,true,true,w1_1,[[str x161.1,aB x161.2]]⟩),(2,⟨29,9,true,true,v15,[[int x13,int x156,int x160,int 0,int 0,int 0,int 0,int 0,.sc (.slice none 0 0)]]⟩),(4,⟨29,9,true,true,w2_1,y2_4.map aF.av⟩)]) (.tmp rfl .nil) (HK.le ⟨rfl,rfl,rfl,trivial⟩) ?_)
  exact ⟨(),(),rfl,rfl,rfl⟩
  rintro y _ ⟨_,_,rfl,hc,rfl⟩
  subst hc
  refine tr aA 1 (.mk ?_)
  obtain ⟨p163,h2⟩:=cO h2
  obtain ⟨x164,e164,h2⟩:=aP h2
  obtain ⟨x165,e165,h2⟩:=aP h2
  refine bL rfl rfl rfl (aN rfl rfl (.cons rfl .nil) fP (PC.mono (fH (s:=x161) (id:=1) (aD:=w1_1) rfl p163) (R':=λy H'=>y=int x164/\H'=upd _ 1 (some (dI 131 w1_1 x165))) (λy H' h=>⟨h.1.trans (congrArg int e164),h.2.trans (d9 e165)⟩))) ?_;rintro _ _ ⟨rfl,rfl⟩
  refine tr aA 1 (.mk ?_)
  refine sS ⟨29,9,true,true,v15,[[int x13,int x156,int x160,int 0,int 0,int 0,int x164,int 0,.sc (.slice none 0 0)]]⟩ bW ?_
  refine tr aA 8 (.mk ?_)
  refine jn h2 [2,3,4,5,6,15,16] [1,2,4] (λ(a:Bool) (k:Unit)=>[(45,aB a)]) (λa k=>[]) ⟨λj166 h3=>?_,?_⟩
  refine tc aA 2 (.mk ?_)
  refine sY (lV rfl rfl (.cons rfl .nil) mM (mF (s:=x165) (id:=1) (aD:=w1_1) rfl) (.sc _)) ?_
  refine tr aA 1 (.mk ?_)
  obtain ⟨x167,e167,h3⟩:=aP h3
  refine gX 40 (aB x167) rfl (congrArg aB e167) ?_
  refine gX 41 (aB x167) rfl (congrArg aB e167) ?_
  cases x167
  replace h3:=cf h3
  refine tr aA 1 (.mk ?_)
  obtain ⟨x168,e168,h3⟩:=bJ h3
  refine sY (gH rfl rfl (.cons rfl .nil) lM (.cons (bO.agg (.cons (.refl _) (.cons (.refl _) (.cons (.refl _) (.cons (.refl _) (.cons (.refl _) (.cons (.refl _) (.cons (.refl _) (.cons (.refl _) (.cons (.nil _) .nil)))))))))) .nil) (lS e168)) ?_
  refine nb aA h3 λx169 h3=>?_
  refine tr aA 2 (.mk ?_)
  exact lf h3 () aW
  replace h3:=ct h3
  refine tr aA 5 (.mk ?_)
  exact lf h3 () aW
  rintro y5_1 _ h2
  cases y5_1
  replace h2:=cf h2
  refine tc aA 5 (.mk ?_)
  refine sY (dQ (ps:=[(0,_)]) (rows:=[[int x13,int x156,int x160,int 0,int 0,int 0,int x164,int 0,.sc (.slice none 0 0)]]) rfl Tryz.underlying27 iC (.cons rfl .nil) (by kernel_rfl) rfl rfl rfl) ?_
  obtain ⟨x170,e170,h2⟩:=aP h2
  obtain ⟨p171,h2⟩:=cO h2
  refine bL rfl rfl rfl (iB (g:=aF.av) (l:=y2_4) (m:=[(⟨x13,x156,x160,0,0,0,x164,0,[]⟩:aF)]) .any rfl Tryz.underlying27 iC mZ rfl rfl rfl rfl rfl rfl rfl rfl rfl rfl (Eq.symm rfl) (fV.list (.cons (.cons (.refl _) (.cons (.refl _) (.cons (.refl _) (.cons (.refl _) (.cons (.refl _) (.cons (.refl _) (.cons (.refl _) (.cons (.refl _) (.cons (.nil _) .nil))))))))) .nil)) (λ_=>rfl) e170 p171) ?_;rintro _ _ ⟨v172,-,rfl,rfl⟩
  refine tr aA 3 (.mk ?_)
  exact jW h2 v172 aW
  replace h2:=ct h2
  refine tc aA 6 (.mk ?_)
  obtain ⟨c173,hX,hj⟩:=gD h2;subst hj;replace h1:=hX.trans (fZ h1)
  obtain ⟨c174,hX,hj⟩:=gD h1;subst hj;replace h0:=hX.trans (fZ h0)
  obtain rfl:=bE h0
  refine wR hret (rT (rT .nil)) ?_
  exact bO.aS (.cons (.nil _) (.cons (.refl _) .nil))
  replace h2:=ct h2
  refine nD [0,0,2,7,15] (λi=>bif Nat.beq i 1 then ([2]) else bif Nat.beq i 2 then ([2]) else []) (λi=>[2]) 4 [0,1,2,3] mixed (by kernel_rfl) rfl rfl rfl rfl rfl rfl rfl rfl rfl rfl rfl rfl rfl Tryz.underlying9 ?_
  refine eP (λH hH=>gH rfl rfl .nil mP (bO.refl _) nK) ?_
  refine eF lW ?_
  refine eL bW ?_
  refine nO 23 (int 9) rfl (congrArg int (of_decide_eq_true e25)) ?_
  refine lF rfl rfl rfl rfl (λH hH=>mR rfl Tryz.underlying88 mJ rfl rfl (by decide) rfl) ?_
  refine ⟨_,rfl,rfl,λb175=>?_⟩
  refine tc aA 13 (.mk ?_)
  refine sY (aH (y:=aB false) (aI rfl rfl rfl) (congrArg aB (by decide))) ?_
  refine tr aA 4 (.mk ?_)
  obtain ⟨j176,h3,h2⟩:=bJ h2
  refine bL (Out:=λy H'=>(∃ (a:Unit) (k:Unit),a=j176/\y=.pt 2 v15 0 1/\H'=hk [(1,⟨131,2,true,true,w1_1,[[str x14.1,aB x14.2]]⟩),(2,⟨29,9,true,true,v15,[[int x13,int 0,int 0,int 0,int 0,int 0,int 0,int 0,.sc (.slice none 0 0)]]⟩),(4,⟨29,9,true,true,w2_1,y2_4.map aF.av⟩)])) rfl rfl rfl (aN rfl rfl (.cons rfl (.cons rfl .nil)) eG ?_) ?_
  refine dD (c:=_) Tryz.func40 rfl rfl ?_;intro Q hret hnorm
  refine tc aA 12 (.mk ?_)
  refine sY (aH (y:=aB true) (aI rfl rfl rfl) (congrArg aB (by decide))) ?_
  refine tr aA 10 (.mk ?_)
  obtain rfl:=bE h3
  refine dM (hret _ _ (hk [(1,⟨131,2,true,true,w1_1,[[str x14.1,aB x14.2]]⟩),(2,⟨29,9,true,true,v15,[[int x13,int 0,int 0,int 0,int 0,int 0,int 0,int 0,.sc (.slice none 0 0)]]⟩),(4,⟨29,9,true,true,w2_1,y2_4.map aF.av⟩)]) (.tmp rfl .nil) (HK.le ⟨rfl,rfl,rfl,trivial⟩) ?_)
  exact ⟨(),(),rfl,rfl,rfl⟩
  rintro y _ ⟨_,_,rfl,hc,rfl⟩
  subst hc
  refine tr aA 1 (.mk ?_)
  obtain ⟨p177,h2⟩:=cO h2
  obtain ⟨x178,e178,h2⟩:=aP h2
  obtain ⟨x179,e179,h2⟩:=aP h2
  refine bL rfl rfl rfl (aN rfl rfl (.cons rfl .nil) fP (PC.mono (fH (s:=x14) (id:=1) (aD:=w1_1) rfl p177) (R':=λy H'=>y=int x178/\H'=upd _ 1 (some (dI 131 w1_1 x179))) (λy H' h=>⟨h.1.trans (congrArg int e178),h.2.trans (d9 e179)⟩))) ?_;rintro _ _ ⟨rfl,rfl⟩
  refine tr aA 1 (.mk ?_)
  refine sS ⟨29,9,true,true,v15,[[int x13,int x178,int 0,int 0,int 0,int 0,int 0,int 0,.sc (.slice none 0 0)]]⟩ bW ?_
  refine tr aA 15 (.mk ?_)
  refine sY (aH (y:=aB false) (aI rfl rfl rfl) (congrArg aB (by decide))) ?_
  refine tr aA 4 (.mk ?_)
  obtain ⟨j180,h3,h2⟩:=bJ h2
  refine bL (Out:=λy H'=>(∃ (a:Unit) (k:Unit),a=j180/\y=.pt 2 v15 0 2/\H'=hk [(1,⟨131,2,true,true,w1_1,[[str x179.1,aB x179.2]]⟩),(2,⟨29,9,true,true,v15,[[int x13,int x178,int 0,int 0,int 0,int 0,int 0,int 0,.sc (.slice none 0 0)]]⟩),(4,⟨29,9,true,true,w2_1,y2_4.map aF.av⟩)])) rfl rfl rfl (aN rfl rfl (.cons rfl (.cons rfl .nil)) eG ?_) ?_
  refine dD (c:=_) Tryz.func40 rfl rfl ?_;intro Q hret hnorm
  refine tc aA 12 (.mk ?_)
  refine sY (aH (y:=aB false) (aI rfl rfl rfl) (congrArg aB (by decide))) ?_
  refine tr aA 5 (.mk ?_)
  refine sY (aH (y:=aB true) (aI rfl rfl rfl) (congrArg aB (by decide))) ?_
  refine tr aA 10 (.mk ?_)
  obtain rfl:=bE h3
  refine dM (hret _ _ (hk [(1,⟨131,2,true,true,w1_1,[[str x179.1,aB x179.2]]⟩),(2,⟨29,9,true,true,v15,[[int x13,int x178,int 0,int 0,int 0,int 0,int 0,int 0,.sc (.slice none 0 0)]]⟩),(4,⟨29,9,true,true,w2_1,y2_4.map aF.av⟩)]) (.tmp rfl .nil) (HK.le ⟨rfl,rfl,rfl,trivial⟩) ?_)
  exact ⟨(),(),rfl,rfl,rfl⟩
  rintro y _ ⟨_,_,rfl,hc,rfl⟩
  subst hc
  refine tr aA 1 (.mk ?_)
  obtain ⟨p181,h2⟩:=cO h2
  obtain ⟨x182,e182,h2⟩:=aP h2
  obtain ⟨x183,e183,h2⟩:=aP h2
  refine bL rfl rfl rfl (aN rfl rfl (.cons rfl .nil) fP (PC.mono (fH (s:=x179) (id:=1) (aD:=w1_1) rfl p181) (R':=λy H'=>y=int x182/\H'=upd _ 1 (some (dI 131 w1_1 x183))) (λy H' h=>⟨h.1.trans (congrArg int e182),h.2.trans (d9 e183)⟩))) ?_;rintro _ _ ⟨rfl,rfl⟩
  refine tr aA 1 (.mk ?_)
  refine sS ⟨29,9,true,true,v15,[[int x13,int x178,int x182,int 0,int 0,int 0,int 0,int 0,.sc (.slice none 0 0)]]⟩ bW ?_
  refine tr aA 15 (.mk ?_)
  refine sY (aH (y:=aB false) (aI rfl rfl rfl) (congrArg aB (by decide))) ?_
  refine tr aA 4 (.mk ?_)
  obtain ⟨j184,h3,h2⟩:=bJ h2
  refine bL (Out:=λy H'=>(∃ (a:Unit) (k:Unit),a=j184/\y=.pt 2 v15 0 6/\H'=hk [(1,⟨131,2,true,true,w1_1,[[str x183.1,aB x183.2]]⟩),(2,⟨29,9,true,true,v15,[[int x13,int x178,int x182,int 0,int 0,int 0,int 0,int 0,.sc (.slice none 0 0)]]⟩),(4,⟨29,9,true,true,w2_1,y2_4.map aF.av⟩)])) rfl rfl rfl (aN rfl rfl (.cons rfl (.cons rfl .nil)) eG ?_) ?_
  refine dD (c:=_) Tryz.func40 rfl rfl ?_;intro Q hret hnorm
  refine tc aA 12 (.mk ?_)
  refine sY (aH (y:=aB false) (aI rfl rfl rfl) (congrArg aB (by decide))) ?_
  refine tr aA 5 (.mk ?_)
  refine sY (aH (y:=aB false) (aI rfl rfl rfl) (congrArg aB (by decide))) ?_
  refine tr aA 5 (.mk ?_)
  refine sY (aH (y:=aB false) (aI rfl rfl rfl) (congrArg aB (by decide))) ?_
  refine tr aA 5 (.mk ?_)
  refine sY (aH (y:=aB false) (aI rfl rfl rfl) (congrArg aB (by decide))) ?_
  refine tr aA 5 (.mk ?_)
  refine sY (aH (y:=aB false) (aI rfl rfl rfl) (congrArg aB (by decide))) ?_
  refine tr aA 5 (.mk ?_)
  refine sY (aH (y:=aB true) (aI rfl rfl rfl) (congrArg aB (by decide))) ?_
  refine tr aA 10 (.mk ?_)
  obtain rfl:=bE h3
  refine dM (hret _ _ (hk [(1,⟨131,2,true,true,w1_1,[[str x183.1,aB x183.2]]⟩),(2,⟨29,9,true,true,v15,[[int x13,int x178,int x182,int 0,int 0,int 0,int 0,int 0,.sc (.slice none 0 0)]]⟩),(4,⟨29,9,true,true,w2_1,y2_4.map aF.av⟩)]) (.tmp rfl .nil) (HK.le ⟨rfl,rfl,rfl,trivial⟩) ?_)
  exact ⟨(),(),rfl,rfl,rfl⟩
  rintro y _ ⟨_,_,rfl,hc,rfl⟩
  subst hc
  refine tr aA 1 (.mk ?_)
  obtain ⟨p185,h2⟩:=cO h2
  obtain ⟨x186,e186,h2⟩:=aP h2
  obtain ⟨x187,e187,h2⟩:=aP h2
  refine bL rfl rfl rfl (aN rfl rfl (.cons rfl .nil) fP (PC.mono (fH (s:=x183) (id:=1) (aD:=w1_1) rfl p185) (R':=λy H'=>y=int x186/\H'=upd _ 1 (some (dI 131 w1_1 x187))) (λy H' h=>⟨h.1.trans (congrArg int e186),h.2.trans (d9 e187)⟩))) ?_;rintro _ _ ⟨rfl,rfl⟩
  refine tr aA 1 (.mk ?_)
  refine sS ⟨29,9,true,true,v15,[[int x13,int x178,int x182,int 0,int 0,int 0,int x186,int 0,.sc (.slice none 0 0)]]⟩ bW ?_
  refine tr aA 8 (.mk ?_)
  refine jn h2 [2,3,4,5,6,15,16] [1,2,4] (λ(a:Bool) (k:Unit)=>[(45,aB a)]) (λa k=>[]) ⟨λj188 h3=>?_,?_⟩
  refine tc aA 2 (.mk ?_)
  refine sY (lV rfl rfl (.cons rfl .nil) mM (mF (s:=x187) (id:=1) (aD:=w1_1) rfl) (.sc _)) ?_
  refine tr aA 1 (.mk ?_)
  obtain ⟨x189,e189,h3⟩:=aP h3
  refine gX 40 (aB x189) rfl (congrArg aB e189) ?_
  refine gX 41 (aB x189) rfl (congrArg aB e189) ?_
  cases x189
  replace h3:=cf h3
  refine tr aA 1 (.mk ?_)
  obtain ⟨x190,e190,h3⟩:=bJ h3
  refine sY (gH rfl rfl (.cons rfl .nil) lM (.cons (bO.agg (.cons (.refl _) (.cons (.refl _) (.cons (.refl _) (.cons (.refl _) (.cons (.refl _) (.cons (.refl _) (.cons (.refl _) (.cons (.refl _) (.cons (.nil _) .nil)))))))))) .nil) (lS e190)) ?_
  refine nb aA h3 λx191 h3=>?_
  refine tr aA 2 (.mk ?_)
  exact lf h3 () aW
  replace h3:=ct h3
  refine tr aA 5 (.mk ?_)
  exact lf h3 () aW
  rintro y5_1 _ h2
  cases y5_1
  replace h2:=cf h2
  refine tc aA 5 (.mk ?_)
  refine sY (dQ (ps:=[(0,_)]) (rows:=[[int x13,int x178,int x182,int 0,int 0,int 0,int x186,int 0,.sc (.slice none 0 0)]]) rfl Tryz.underlying27 iC (.cons rfl .nil) (by kernel_rfl) rfl rfl rfl) ?_
  obtain ⟨x192,e192,h2⟩:=aP h2
  obtain ⟨p193,h2⟩:=cO h2
  refine bL rfl rfl rfl (iB (g:=aF.av) (l:=y2_4) (m:=[(⟨x13,x178,x182,0,0,0,x186,0,[]⟩:aF)]) .any rfl Tryz.underlying27 iC mZ rfl rfl rfl rfl rfl rfl rfl rfl rfl rfl (Eq.symm rfl) (fV.list (.cons (.cons (.refl _) (.cons (.refl _) (.cons (.refl _) (.cons (.refl _) (.cons (.refl _) (.cons (.refl _) (.cons (.refl _) (.cons (.refl _) (.cons (.nil _) .nil))))))))) .nil)) (λ_=>rfl) e192 p193) ?_;rintro _ _ ⟨v194,-,rfl,rfl⟩
  refine tr aA 3 (.mk ?_)
  exact jW h2 v194 aW
  replace h2:=ct h2
  refine tc aA 6 (.mk ?_)
  obtain ⟨c195,hX,hj⟩:=gD h2;subst hj;replace h1:=hX.trans (fZ h1)
  obtain ⟨c196,hX,hj⟩:=gD h1;subst hj;replace h0:=hX.trans (fZ h0)
  obtain rfl:=bE h0
  refine wR hret (rT (rT .nil)) ?_
  exact bO.aS (.cons (.nil _) (.cons (.refl _) .nil))
  replace h2:=ct h2
  refine nD [0,0,2,7,15] (λi=>bif Nat.beq i 1 then ([2]) else bif Nat.beq i 2 then ([2]) else []) (λi=>[2]) 4 [0,1,2,3] mixed (by kernel_rfl) rfl rfl rfl rfl rfl rfl rfl rfl rfl rfl rfl rfl rfl Tryz.underlying9 ?_
  refine eP (λH hH=>gH rfl rfl .nil mP (bO.refl _) nK) ?_
  refine eF lW ?_
  refine eL bW ?_
  refine nO 23 (int 8) rfl (congrArg int (of_decide_eq_true e24)) ?_
  refine lF rfl rfl rfl rfl (λH hH=>mR rfl Tryz.underlying88 mJ rfl rfl (by decide) rfl) ?_
  refine ⟨_,rfl,rfl,λb197=>?_⟩
  refine tc aA 13 (.mk ?_)
  refine sY (aH (y:=aB false) (aI rfl rfl rfl) (congrArg aB (by decide))) ?_
  refine tr aA 4 (.mk ?_)
  obtain ⟨j198,h3,h2⟩:=bJ h2
  refine bL (Out:=λy H'=>(∃ (a:Unit) (k:Unit),a=j198/\y=.pt 2 v15 0 1/\H'=hk [(1,⟨131,2,true,true,w1_1,[[str x14.1,aB x14.2]]⟩),(2,⟨29,9,true,true,v15,[[int x13,int 0,int 0,int 0,int 0,int 0,int 0,int 0,.sc (.slice none 0 0)]]⟩),(4,⟨29,9,true,true,w2_1,y2_4.map aF.av⟩)])) rfl rfl rfl (aN rfl rfl (.cons rfl (.cons rfl .nil)) eG ?_) ?_
  refine dD (c:=_) Tryz.func40 rfl rfl ?_;intro Q hret hnorm
  refine tc aA 12 (.mk ?_)
  refine sY (aH (y:=aB true) (aI rfl rfl rfl) (congrArg aB (by decide))) ?_
  refine tr aA 10 (.mk ?_)
  obtain rfl:=bE h3
  refine dM (hret _ _ (hk [(1,⟨131,2,true,true,w1_1,[[str x14.1,aB x14.2]]⟩),(2,⟨29,9,true,true,v15,[[int x13,int 0,int 0,int 0,int 0,int 0,int 0,int 0,.sc (.slice none 0 0)]]⟩),(4,⟨29,9,true,true,w2_1,y2_4.map aF.av⟩)]) (.tmp rfl .nil) (HK.le ⟨rfl,rfl,rfl,trivial⟩) ?_)
  exact ⟨(),(),rfl,rfl,rfl⟩
  rintro y _ ⟨_,_,rfl,hc,rfl⟩
  subst hc
  refine tr aA 1 (.mk ?_)
  obtain ⟨p199,h2⟩:=cO h2
  obtain ⟨x200,e200,h2⟩:=aP h2
  obtain ⟨x201,e201,h2⟩:=aP h2
  refine bL rfl rfl rfl (aN rfl rfl (.cons rfl .nil) fP (PC.mono (fH (s:=x14) (id:=1) (aD:=w1_1) rfl p199) (R':=λy H'=>y=int x200/\H'=upd _ 1 (some (dI 131 w1_1 x201))) (λy H' h=>⟨h.1.trans (congrArg int e200),h.2.trans (d9 e201)⟩))) ?_;rintro _ _ ⟨rfl,rfl⟩
  refine tr aA 1 (.mk ?_)
  refine sS ⟨29,9,true,true,v15,[[int x13,int x200,int 0,int 0,int 0,int 0,int 0,int 0,.sc (.slice none 0 0)]]⟩ bW ?_
  refine tr aA 15 (.mk ?_)
  refine sY (aH (y:=aB false) (aI rfl rfl rfl) (congrArg aB (by decide))) ?_
  refine tr aA 4 (.mk ?_)
  obtain ⟨j202,h3,h2⟩:=bJ h2
  refine bL (Out:=λy H'=>(∃ (a:Unit) (k:Unit),a=j202/\y=.pt 2 v15 0 2/\H'=hk [(1,⟨131,2,true,true,w1_1,[[str x201.1,aB x201.2]]⟩),(2,⟨29,9,true,true,v15,[[int x13,int x200,int 0,int 0,int 0,int 0,int 0,int 0,.sc (.slice none 0 0)]]⟩),(4,⟨29,9,true,true,w2_1,y2_4.map aF.av⟩)])) rfl rfl rfl (aN rfl rfl (.cons rfl (.cons rfl .nil)) eG ?_) ?_
  refine dD (c:=_) Tryz.func40 rfl rfl ?_;intro Q hret hnorm
  refine tc aA 12 (.mk ?_)
  refine sY (aH (y:=aB false) (aI rfl rfl rfl) (congrArg aB (by decide))) ?_
  refine tr aA 5 (.mk ?_)
  refine sY (aH (y:=aB true) (aI rfl rfl rfl) (congrArg aB (by decide))) ?_
  refine tr aA 10 (.mk ?_)
  obtain rfl:=bE h3
  refine dM (hret _ _ (hk [(1,⟨131,2,true,true,w1_1,[[str x201.1,aB x201.2]]⟩),(2,⟨29,9,true,true,v15,[[int x13,int x200,int 0,int 0,int 0,int 0,int 0,int 0,.sc (.slice none 0 0)]]⟩),(4,⟨29,9,true,true,w2_1,y2_4.map aF.av⟩)]) (.tmp rfl .nil) (HK.le ⟨rfl,rfl,rfl,trivial⟩) ?_)
  exact ⟨(),(),rfl,rfl,rfl⟩
  rintro y _ ⟨_,_,rfl,hc,rfl⟩
  subst hc
  refine tr aA 1 (.mk ?_)
  obtain ⟨p203,h2⟩:=cO h2
  obtain ⟨x204,e204,h2⟩:=aP h2
  obtain ⟨x205,e205,h2⟩:=aP h2
  refine bL rfl rfl rfl (aN rfl rfl (.cons rfl .nil) fP (PC.mono (fH (s:=x201) (id:=1) (aD:=w1_1) rfl p203) (R':=λy H'=>y=int x204/\H'=upd _ 1 (some (dI 131 w1_1 x205))) (λy H' h=>⟨h.1.trans (congrArg int e204),h.2.trans (d9 e205)⟩))) ?_;rintro _ _ ⟨rfl,rfl⟩
  refine tr aA 1 (.mk ?_)
  refine sS ⟨29,9,true,true,v15,[[int x13,int x200,int x204,int 0,int 0,int 0,int 0,int 0,.sc (.slice none 0 0)]]⟩ bW ?_
  refine tr aA 15 (.mk ?_)
  refine sY (aH (y:=aB false) (aI rfl rfl rfl) (congrArg aB (by decide))) ?_
  refine tr aA 4 (.mk ?_)
  obtain ⟨j206,h3,h2⟩:=bJ h2
  refine bL (Out:=λy H'=>(∃ (a:Unit) (k:Unit),a=j206/\y=.pt 2 v15 0 3/\H'=hk [(1,⟨131,2,true,true,w1_1,[[str x205.1,aB x205.2]]⟩),(2,⟨29,9,true,true,v15,[[int x13,int x200,int x204,int 0,int 0,int 0,int 0,int 0,.sc (.slice none 0 0)]]⟩),(4,⟨29,9,true,true,w2_1,y2_4.map aF.av⟩)])) rfl rfl rfl (aN rfl rfl (.cons rfl (.cons rfl .nil)) eG ?_) ?_
  refine dD (c:=_) Tryz.func40 rfl rfl ?_;intro Q hret hnorm
  refine tc aA 12 (.mk ?_)
  refine sY (aH (y:=aB false) (aI rfl rfl rfl) (congrArg aB (by decide))) ?_
  refine tr aA 5 (.mk ?_)
  refine sY (aH (y:=aB false) (aI rfl rfl rfl) (congrArg aB (by decide))) ?_
  refine tr aA 5 (.mk ?_)
  refine sY (aH (y:=aB true) (aI rfl rfl rfl) (congrArg aB (by decide))) ?_
  refine tr aA 10 (.mk ?_)
  obtain rfl:=bE h3
  refine dM (hret _ _ (hk [(1,⟨131,2,true,true,w1_1,[[str x205.1,aB x205.2]]⟩),(2,⟨29,9,true,true,v15,[[int x13,int x200,int x204,int 0,int 0,int 0,int 0,int 0,.sc (.slice none 0 0)]]⟩),(4,⟨29,9,true,true,w2_1,y2_4.map aF.av⟩)]) (.tmp rfl .nil) (HK.le ⟨rfl,rfl,rfl,trivial⟩) ?_)
  exact ⟨(),(),rfl,rfl,rfl⟩
  rintro y _ ⟨_,_,rfl,hc,rfl⟩
  subst hc
  refine tr aA 1 (.mk ?_)
  obtain ⟨p207,h2⟩:=cO h2
  obtain ⟨x208,e208,h2⟩:=aP h2
  obtain ⟨x209,e209,h2⟩:=aP h2
  refine bL rfl rfl rfl (aN rfl rfl (.cons rfl .nil) fP (PC.mono (fH (s:=x205) (id:=1) (aD:=w1_1) rfl p207) (R':=λy H'=>y=int x208/\H'=upd _ 1 (some (dI 131 w1_1 x209))) (λy H' h=>⟨h.1.trans (congrArg int e208),h.2.trans (d9 e209)⟩))) ?_;rintro _ _ ⟨rfl,rfl⟩
  refine tr aA 1 (.mk ?_)
  refine sS ⟨29,9,true,true,v15,[[int x13,int x200,int x204,int x208,int 0,int 0,int 0,int 0,.sc (.slice none 0 0)]]⟩ bW ?_
  refine tr aA 15 (.mk ?_)
  refine sY (aH (y:=aB false) (aI rfl rfl rfl) (congrArg aB (by decide))) ?_
  refine tr aA 4 (.mk ?_)
  obtain ⟨j210,h3,h2⟩:=bJ h2
  refine bL (Out:=λy H'=>(∃ (a:Unit) (k:Unit),a=j210/\y=.pt 2 v15 0 4/\H'=hk [(1,⟨131,2,true,true,w1_1,[[str x209.1,aB x209.2]]⟩),(2,⟨29,9,true,true,v15,[[int x13,int x200,int x204,int x208,int 0,int 0,int 0,int 0,.sc (.slice none 0 0)]]⟩),(4,⟨29,9,true,true,w2_1,y2_4.map aF.av⟩)])) rfl rfl rfl (aN rfl rfl (.cons rfl (.cons rfl .nil)) eG ?_) ?_
  refine dD (c:=_) Tryz.func40 rfl rfl ?_;intro Q hret hnorm
  refine tc aA 12 (.mk ?_)
  refine sY (aH (y:=aB false) (aI rfl rfl rfl) (congrArg aB (by decide))) ?_
  refine tr aA 5 (.mk ?_)
  refine sY (aH (y:=aB false) (aI rfl rfl rfl) (congrArg aB (by decide))) ?_
  refine tr aA 5 (.mk ?_)
  refine sY (aH (y:=aB false) (aI rfl rfl rfl) (congrArg aB (by decide))) ?_
  refine tr aA 5 (.mk ?_)
  refine sY (aH (y:=aB true) (aI rfl rfl rfl) (congrArg aB (by decide))) ?_
  refine tr aA 10 (.mk ?_)
  obtain rfl:=bE h3
  refine dM (hret _ _ (hk [(1,⟨131,2,true,true,w1_1,[[str x209.1,aB x209.2]]⟩),(2,⟨29,9,true,true,v15,[[int x13,int x200,int x204,int x208,int 0,int 0,int 0,int 0,.sc (.slice none 0 0)]]⟩),(4,⟨29,9,true,true,w2_1,y2_4.map aF.av⟩)]) (.tmp rfl .nil) (HK.le ⟨rfl,rfl,rfl,trivial⟩) ?_)
  exact ⟨(),(),rfl,rfl,rfl⟩
  rintro y _ ⟨_,_,rfl,hc,rfl⟩
  subst hc
  refine tr aA 1 (.mk ?_)
  obtain ⟨p211,h2⟩:=cO h2
  obtain ⟨x212,e212,h2⟩:=aP h2
  obtain ⟨x213,e213,h2⟩:=aP h2
  refine bL rfl rfl rfl (aN rfl rfl (.cons rfl .nil) fP (PC.mono (fH (s:=x209) (id:=1) (aD:=w1_1) rfl p211) (R':=λy H'=>y=int x212/\H'=upd _ 1 (some (dI 131 w1_1 x213))) (λy H' h=>⟨h.1.trans (congrArg int e212),h.2.trans (d9 e213)⟩))) ?_;rintro _ _ ⟨rfl,rfl⟩
  refine tr aA 1 (.mk ?_)
  refine sS ⟨29,9,true,true,v15,[[int x13,int x200,int x204,int x208,int x212,int 0,int 0,int 0,.sc (.slice none 0 0)]]⟩ bW ?_
  refine tr aA 15 (.mk ?_)
  refine sY (aH (y:=aB false) (aI rfl rfl rfl) (congrArg aB (by decide))) ?_
  refine tr aA 4 (.mk ?_)
  obtain ⟨j214,h3,h2⟩:=bJ h2
  refine bL (Out:=λy H'=>(∃ (a:Unit) (k:Unit),a=j214/\y=.pt 2 v15 0 5/\H'=hk [(1,⟨131,2,true,true,w1_1,[[str x213.1,aB x213.2]]⟩),(2,⟨29,9,true,true,v15,[[int x13,int x200,int x204,int x208,int x212,int 0,int 0,int 0,.sc (.slice none 0 0)]]⟩),(4,⟨29,9,true,true,w2_1,y2_4.map aF.av⟩)])) rfl rfl rfl (aN rfl rfl (.cons rfl (.cons rfl .nil)) eG ?_) ?_
  refine dD (c:=_) Tryz.func40 rfl rfl ?_;intro Q hret hnorm
  refine tc aA 12 (.mk ?_)
  refine sY (aH (y:=aB false) (aI rfl rfl rfl) (congrArg aB (by decide))) ?_
  refine tr aA 5 (.mk ?_)
  refine sY (aH (y:=aB false) (aI rfl rfl rfl) (congrArg aB (by decide))) ?_
  refine tr aA 5 (.mk ?_)
  refine sY (aH (y:=aB false) (aI rfl rfl rfl) (congrArg aB (by decide))) ?_
  refine tr aA 5 (.mk ?_)
  refine sY (aH (y:=aB false) (aI rfl rfl rfl) (congrArg aB (by decide))) ?_
  refine tr aA 5 (.mk ?_)
  refine sY (aH (y:=aB true) (aI rfl rfl rfl) (congrArg aB (by decide))) ?_
  refine tr aA 10 (.mk ?_)
  obtain rfl:=bE h3
  refine dM (hret _ _ (hk [(1,⟨131,2,true,true,w1_1,[[str x213.1,aB x213.2]]⟩),(2,⟨29,9,true,true,v15,[[int x13,int x200,int x204,int x208,int x212,int 0,int 0,int 0,.sc (.slice none 0 0)]]⟩),(4,⟨29,9,true,true,w2_1,y2_4.map aF.av⟩)]) (.tmp rfl .nil) (HK.le ⟨rfl,rfl,rfl,trivial⟩) ?_)
  exact ⟨(),(),rfl,rfl,rfl⟩
  rintro y _ ⟨_,_,rfl,hc,rfl⟩
  subst hc
  refine tr aA 1 (.mk ?_)
  obtain ⟨p215,h2⟩:=cO h2
  obtain ⟨x216,e216,h2⟩:=aP h2
  obtain ⟨x217,e217,h2⟩:=aP h2
  refine bL rfl rfl rfl (aN rfl rfl (.cons rfl .nil) fP (PC.mono (fH (s:=x213) (id:=1) (aD:=w1_1) rfl p215) (R':=λy H'=>y=int x216/\H'=upd _ 1 (some (dI 131 w1_1 x217))) (λy H' h=>⟨h.1.trans (congrArg int e216),h.2.trans (d9 e217)⟩))) ?_;rintro _ _ ⟨rfl,rfl⟩
  refine tr aA 1 (.mk ?_)
  refine sS ⟨29,9,true,true,v15,[[int x13,int x200,int x204,int x208,int x212,int x216,int 0,int 0,.sc (.slice none 0 0)]]⟩ bW ?_
  refine tr aA 8 (.mk ?_)
  refine jn h2 [2,3,4,5,6,15,16] [1,2,4] (λ(a:Bool) (k:Unit)=>[(45,aB a)]) (λa k=>[]) ⟨λj218 h3=>?_,?_⟩
  refine tc aA 2 (.mk ?_)
  refine sY (lV rfl rfl (.cons rfl .nil) mM (mF (s:=x217) (id:=1) (aD:=w1_1) rfl) (.sc _)) ?_
  refine tr aA 1 (.mk ?_)
  obtain ⟨x219,e219,h3⟩:=aP h3
  refine gX 40 (aB x219) rfl (congrArg aB e219) ?_
  refine gX 41 (aB x219) rfl (congrArg aB e219) ?_
  cases x219
  replace h3:=cf h3
  refine tr aA 1 (.mk ?_)
  obtain ⟨x220,e220,h3⟩:=bJ h3
  refine sY (gH rfl rfl (.cons rfl .nil) lM (.cons (bO.agg (.cons (.refl _) (.cons (.refl _) (.cons (.refl _) (.cons (.refl _) (.cons (.refl _) (.cons (.refl _) (.cons (.refl _) (.cons (.refl _) (.cons (.nil _) .nil)))))))))) .nil) (lS e220)) ?_
  refine nb aA h3 λx221 h3=>?_
  refine tr aA 2 (.mk ?_)
  exact lf h3 () aW
  replace h3:=ct h3
  refine tr aA 5 (.mk ?_)
  exact lf h3 () aW
  rintro y5_1 _ h2
  cases y5_1
  replace h2:=cf h2
  refine tc aA 5 (.mk ?_)
  refine sY (dQ (ps:=[(0,_)]) (rows:=[[int x13,int x200,int x204,int x208,int x212,int x216,int 0,int 0,.sc (.slice none 0 0)]]) rfl Tryz.underlying27 iC (.cons rfl .nil) (by kernel_rfl) rfl rfl rfl) ?_
  obtain ⟨x222,e222,h2⟩:=aP h2
  obtain ⟨p223,h2⟩:=cO h2
  refine bL rfl rfl rfl (iB (g:=aF.av) (l:=y2_4) (m:=[(⟨x13,x200,x204,x208,x212,x216,0,0,[]⟩:aF)]) .any rfl Tryz.underlying27 iC mZ rfl rfl rfl rfl rfl rfl rfl rfl rfl rfl (Eq.symm rfl) (fV.list (.cons (.cons (.refl _) (.cons (.refl _) (.cons (.refl _) (.cons (.refl _) (.cons (.refl _) (.cons (.refl _) (.cons (.refl _) (.cons (.refl _) (.cons (.nil _) .nil))))))))) .nil)) (λ_=>rfl) e222 p223) ?_;rintro _ _ ⟨v224,-,rfl,rfl⟩
  refine tr aA 3 (.mk ?_)
  exact jW h2 v224 aW
  replace h2:=ct h2
  refine tc aA 6 (.mk ?_)
  obtain ⟨c225,hX,hj⟩:=gD h2;subst hj;replace h1:=hX.trans (fZ h1)
  obtain ⟨c226,hX,hj⟩:=gD h1;subst hj;replace h0:=hX.trans (fZ h0)
  obtain rfl:=bE h0
  refine wR hret (rT (rT .nil)) ?_
  exact bO.aS (.cons (.nil _) (.cons (.refl _) .nil))
  replace h2:=ct h2
  refine nD [0,0,2,7,15] (λi=>bif Nat.beq i 1 then ([2]) else bif Nat.beq i 2 then ([2]) else []) (λi=>[2]) 4 [0,1,2,3] mixed (by kernel_rfl) rfl rfl rfl rfl rfl rfl rfl rfl rfl rfl rfl rfl rfl Tryz.underlying9 ?_
  refine eP (λH hH=>gH rfl rfl .nil mP (bO.refl _) nK) ?_
  refine eF lW ?_
  refine eL bW ?_
  refine nO 23 (int 7) rfl (congrArg int (of_decide_eq_true e23)) ?_
  refine lF rfl rfl rfl rfl (λH hH=>mR rfl Tryz.underlying88 mJ rfl rfl (by decide) rfl) ?_
  refine ⟨_,rfl,rfl,λb227=>?_⟩
  refine tc aA 13 (.mk ?_)
  refine sY (aH (y:=aB false) (aI rfl rfl rfl) (congrArg aB (by decide))) ?_
  refine tr aA 4 (.mk ?_)
  obtain ⟨j228,h3,h2⟩:=bJ h2
  refine bL (Out:=λy H'=>(∃ (a:Unit) (k:Unit),a=j228/\y=.pt 2 v15 0 1/\H'=hk [(1,⟨131,2,true,true,w1_1,[[str x14.1,aB x14.2]]⟩),(2,⟨29,9,true,true,v15,[[int x13,int 0,int 0,int 0,int 0,int 0,int 0,int 0,.sc (.slice none 0 0)]]⟩),(4,⟨29,9,true,true,w2_1,y2_4.map aF.av⟩)])) rfl rfl rfl (aN rfl rfl (.cons rfl (.cons rfl .nil)) eG ?_) ?_
  refine dD (c:=_) Tryz.func40 rfl rfl ?_;intro Q hret hnorm
  refine tc aA 12 (.mk ?_)
  refine sY (aH (y:=aB true) (aI rfl rfl rfl) (congrArg aB (by decide))) ?_
  refine tr aA 10 (.mk ?_)
  obtain rfl:=bE h3
  refine dM (hret _ _ (hk [(1,⟨131,2,true,true,w1_1,[[str x14.1,aB x14.2]]⟩),(2,⟨29,9,true,true,v15,[[int x13,int 0,int 0,int 0,int 0,int 0,int 0,int 0,.sc (.slice none 0 0)]]⟩),(4,⟨29,9,true,true,w2_1,y2_4.map aF.av⟩)]) (.tmp rfl .nil) (HK.le ⟨rfl,rfl,rfl,trivial⟩) ?_)
  exact ⟨(),(),rfl,rfl,rfl⟩
  rintro y _ ⟨_,_,rfl,hc,rfl⟩
  subst hc
  refine tr aA 1 (.mk ?_)
  obtain ⟨p229,h2⟩:=cO h2
  obtain ⟨x230,e230,h2⟩:=aP h2
  obtain ⟨x231,e231,h2⟩:=aP h2
  refine bL rfl rfl rfl (aN rfl rfl (.cons rfl .nil) fP (PC.mono (fH (s:=x14) (id:=1) (aD:=w1_1) rfl p229) (R':=λy H'=>y=int x230/\H'=upd _ 1 (some (dI 131 w1_1 x231))) (λy H' h=>⟨h.1.trans (congrArg int e230),h.2.trans (d9 e231)⟩))) ?_;rintro _ _ ⟨rfl,rfl⟩
  refine tr aA 1 (.mk ?_)
  refine sS ⟨29,9,true,true,v15,[[int x13,int x230,int 0,int 0,int 0,int 0,int 0,int 0,.sc (.slice none 0 0)]]⟩ bW ?_
  refine tr aA 15 (.mk ?_)
  refine sY (aH (y:=aB false) (aI rfl rfl rfl) (congrArg aB (by decide))) ?_
  refine tr aA 4 (.mk ?_)
  obtain ⟨j232,h3,h2⟩:=bJ h2
  refine bL (Out:=λy H'=>(∃ (a:Unit) (k:Unit),a=j232/\y=.pt 2 v15 0 2/\H'=hk [(1,⟨131,2,true,true,w1_1,[[str x231.1,aB x231.2]]⟩),(2,⟨29,9,true,true,v15,[[int x13,int x230,int 0,int 0,int 0,int 0,int 0,int 0,.sc (.slice none 0 0)]]⟩),(4,⟨29,9,true,true,w2_1,y2_4.map aF.av⟩)])) rfl rfl rfl (aN rfl rfl (.cons rfl (.cons rfl .nil)) eG ?_) ?_
  refine dD (c:=_) Tryz.func40 rfl rfl ?_;intro Q hret hnorm
  refine tc aA 12 (.mk ?_)
  refine sY (aH (y:=aB false) (aI rfl rfl rfl) (congrArg aB (by decide))) ?_
  refine tr aA 5 (.mk ?_)
  refine sY (aH (y:=aB true) (aI rfl rfl rfl) (congrArg aB (by decide))) ?_
  refine tr aA 10 (.mk ?_)
  obtain rfl:=bE h3
  refine dM (hret _ _ (hk [(1,⟨131,2,true,true,w1_1,[[str x231.1,aB x231.2]]⟩),(2,⟨29,9,true,true,v15,[[int x13,int x230,int 0,int 0,int 0,int 0,int 0,int 0,.sc (.slice none 0 0)]]⟩),(4,⟨29,9,true,true,w2_1,y2_4.map aF.av⟩)]) (.tmp rfl .nil) (HK.le ⟨rfl,rfl,rfl,trivial⟩) ?_)
  exact ⟨(),(),rfl,rfl,rfl⟩
  rintro y _ ⟨_,_,rfl,hc,rfl⟩
  subst hc
  refine tr aA 1 (.mk ?_)
  obtain ⟨p233,h2⟩:=cO h2
  obtain ⟨x234,e234,h2⟩:=aP h2
  obtain ⟨x235,e235,h2⟩:=aP h2
  refine bL rfl rfl rfl (aN rfl rfl (.cons rfl .nil) fP (PC.mono (fH (s:=x231) (id:=1) (aD:=w1_1) rfl p233) (R':=λy H'=>y=int x234/\H'=upd _ 1 (some (dI 131 w1_1 x235))) (λy H' h=>⟨h.1.trans (congrArg int e234),h.2.trans (d9 e235)⟩))) ?_;rintro _ _ ⟨rfl,rfl⟩
  refine tr aA 1 (.mk ?_)
  refine sS ⟨29,9,true,true,v15,[[int x13,int x230,int x234,int 0,int 0,int 0,int 0,int 0,.sc (.slice none 0 0)]]⟩ bW ?_
  refine tr aA 15 (.mk ?_)
  refine sY (aH (y:=aB false) (aI rfl rfl rfl) (congrArg aB (by decide))) ?_
  refine tr aA 4 (.mk ?_)
  obtain ⟨j236,h3,h2⟩:=bJ h2
  refine bL (Out:=λy H'=>(∃ (a:Unit) (k:Unit),a=j236/\y=.pt 2 v15 0 3/\H'=hk [(1,⟨131,2,true,true,w1_1,[[str x235.1,aB x235.2]]⟩),(2,⟨29,9,true,true,v15,[[int x13,int x230,int x234,int 0,int 0,int 0,int 0,int 0,.sc (.slice none 0 0)]]⟩),(4,⟨29,9,true,true,w2_1,y2_4.map aF.av⟩)])) rfl rfl rfl (aN rfl rfl (.cons rfl (.cons rfl .nil)) eG ?_) ?_
  refine dD (c:=_) Tryz.func40 rfl rfl ?_;intro Q hret hnorm
  refine tc aA 12 (.mk ?_)
  refine sY (aH (y:=aB false) (aI rfl rfl rfl) (congrArg aB (by decide))) ?_
  refine tr aA 5 (.mk ?_)
  refine sY (aH (y:=aB false) (aI rfl rfl rfl) (congrArg aB (by decide))) ?_
  refine tr aA 5 (.mk ?_)
  refine sY (aH (y:=aB true) (aI rfl rfl rfl) (congrArg aB (by decide))) ?_
  refine tr aA 10 (.mk ?_)
  obtain rfl:=bE h3
  refine dM (hret _ _ (hk [(1,⟨131,2,true,true,w1_1,[[str x235.1,aB x235.2]]⟩),(2,⟨29,9,true,true,v15,[[int x13,int x230,int x234,int 0,int 0,int 0,int 0,int 0,.sc (.slice none 0 0)]]⟩),(4,⟨29,9,true,true,w2_1,y2_4.map aF.av⟩)]) (.tmp rfl .nil) (HK.le ⟨rfl,rfl,rfl,trivial⟩) ?_)
  exact ⟨(),(),rfl,rfl,rfl⟩
  rintro y _ ⟨_,_,rfl,hc,rfl⟩
  subst hc
  refine tr aA 1 (.mk ?_)
  obtain ⟨p237,h2⟩:=cO h2
  obtain ⟨x238,e238,h2⟩:=aP h2
  obtain ⟨x239,e239,h2⟩:=aP h2
  refine bL rfl rfl rfl (aN rfl rfl (.cons rfl .nil) fP (PC.mono (fH (s:=x235) (id:=1) (aD:=w1_1) rfl p237) (R':=λy H'=>y=int x238/\H'=upd _ 1 (some (dI 131 w1_1 x239))) (λy H' h=>⟨h.1.trans (congrArg int e238),h.2.trans (d9 e239)⟩))) ?_;rintro _ _ ⟨rfl,rfl⟩
  refine tr aA 1 (.mk ?_)
  refine sS ⟨29,9,true,true,v15,[[int x13,int x230,int x234,int x238,int 0,int 0,int 0,int 0,.sc (.slice none 0 0)]]⟩ bW ?_
  refine tr aA 15 (.mk ?_)
  refine sY (aH (y:=aB false) (aI rfl rfl rfl) (congrArg aB (by decide))) ?_
  refine tr aA 4 (.mk ?_)
  obtain ⟨j240,h3,h2⟩:=bJ h2
  refine bL (Out:=λy H'=>(∃ (a:Unit) (k:Unit),a=j240/\y=.pt 2 v15 0 5/\H'=hk [(1,⟨131,2,true,true,w1_1,[[str x239.1,aB x239.2]]⟩),(2,⟨29,9,true,true,v15,[[int x13,int x230,int x234,int x238,int 0,int 0,int 0,int 0,.sc (.slice none 0 0)]]⟩),(4,⟨29,9,true,true,w2_1,y2_4.map aF.av⟩)])) rfl rfl rfl (aN rfl rfl (.cons rfl (.cons rfl .nil)) eG ?_) ?_
  refine dD (c:=_) Tryz.func40 rfl rfl ?_;intro Q hret hnorm
  refine tc aA 12 (.mk ?_)
  refine sY (aH (y:=aB false) (aI rfl rfl rfl) (congrArg aB (by decide))) ?_
  refine tr aA 5 (.mk ?_)
  refine sY (aH (y:=aB false) (aI rfl rfl rfl) (congrArg aB (by decide))) ?_
  refine tr aA 5 (.mk ?_)
  refine sY (aH (y:=aB false) (aI rfl rfl rfl) (congrArg aB (by decide))) ?_
  refine tr aA 5 (.mk ?_)
  refine sY (aH (y:=aB false) (aI rfl rfl rfl) (congrArg aB (by decide))) ?_
  refine tr aA 5 (.mk ?_)
  refine sY (aH (y:=aB true) (aI rfl rfl rfl) (congrArg aB (by decide))) ?_
  refine tr aA 10 (.mk ?_)
  obtain rfl:=bE h3
  refine dM (hret _ _ (hk [(1,⟨131,2,true,true,w1_1,[[str x239.1,aB x239.2]]⟩),(2,⟨29,9,true,true,v15,[[int x13,int x230,int x234,int x238,int 0,int 0,int 0,int 0,.sc (.slice none 0 0)]]⟩),(4,⟨29,9,true,true,w2_1,y2_4.map aF.av⟩)]) (.tmp rfl .nil) (HK.le ⟨rfl,rfl,rfl,trivial⟩) ?_)
  exact ⟨(),(),rfl,rfl,rfl⟩
  rintro y _ ⟨_,_,rfl,hc,rfl⟩
  subst hc
  refine tr aA 1 (.mk ?_)
  obtain ⟨p241,h2⟩:=cO h2
  obtain ⟨x242,e242,h2⟩:=aP h2
  obtain ⟨x243,e243,h2⟩:=aP h2
  refine bL rfl rfl rfl (aN rfl rfl (.cons rfl .nil) fP (PC.mono (fH (s:=x239) (id:=1) (aD:=w1_1) rfl p241) (R':=λy H'=>y=int x242/\H'=upd _ 1 (some (dI 131 w1_1 x243))) (λy H' h=>⟨h.1.trans (congrArg int e242),h.2.trans (d9 e243)⟩))) ?_;rintro _ _ ⟨rfl,rfl⟩
  refine tr aA 1 (.mk ?_)
  refine sS ⟨29,9,true,true,v15,[[int x13,int x230,int x234,int x238,int 0,int x242,int 0,int 0,.sc (.slice none 0 0)]]⟩ bW ?_
  refine tr aA 8 (.mk ?_)
  refine jn h2 [2,3,4,5,6,15,16] [1,2,4] (λ(a:Bool) (k:Unit)=>[(45,aB a)]) (λa k=>[]) ⟨λj244 h3=>?_,?_⟩
  refine tc aA 2 (.mk ?_)
  refine sY (lV rfl rfl (.cons rfl .nil) mM (mF (s:=x243) (id:=1) (aD:=w1_1) rfl) (.sc _)) ?_
  refine tr aA 1 (.mk ?_)
  obtain ⟨x245,e245,h3⟩:=aP h3
  refine gX 40 (aB x245) rfl (congrArg aB e245) ?_
  refine gX 41 (aB x245) rfl (congrArg aB e245) ?_
  cases x245
  replace h3:=cf h3
  refine tr aA 1 (.mk ?_)
  obtain ⟨x246,e246,h3⟩:=bJ h3
  refine sY (gH rfl rfl (.cons rfl .nil) lM (.cons (bO.agg (.cons (.refl _) (.cons (.refl _) (.cons (.refl _) (.cons (.refl _) (.cons (.refl _) (.cons (.refl _) (.cons (.refl _) (.cons (.refl _) (.cons (.nil _) .nil)))))))))) .nil) (lS e246)) ?_
  refine nb aA h3 λx247 h3=>?_
  refine tr aA 2 (.mk ?_)
  exact lf h3 () aW
  replace h3:=ct h3
  refine tr aA 5 (.mk ?_)
  exact lf h3 () aW
  rintro y5_1 _ h2
  cases y5_1
  replace h2:=cf h2
  refine tc aA 5 (.mk ?_)
  refine sY (dQ (ps:=[(0,_)]) (rows:=[[int x13,int x230,int x234,int x238,int 0,int x242,int 0,int 0,.sc (.slice none 0 0)]]) rfl Tryz.underlying27 iC (.cons rfl .nil) (by kernel_rfl) rfl rfl rfl) ?_
  obtain ⟨x248,e248,h2⟩:=aP h2
  obtain ⟨p249,h2⟩:=cO h2
  refine bL rfl rfl rfl (iB (g:=aF.av) (l:=y2_4) (m:=[(⟨x13,x230,x234,x238,0,x242,0,0,[]⟩:aF)]) .any rfl Tryz.underlying27 iC mZ rfl rfl rfl rfl rfl rfl rfl rfl rfl rfl (Eq.symm rfl) (fV.list (.cons (.cons (.refl _) (.cons (.refl _) (.cons (.refl _) (.cons (.refl _) (.cons (.refl _) (.cons (.refl _) (.cons (.refl _) (.cons (.refl _) (.cons (.nil _) .nil))))))))) .nil)) (λ_=>rfl) e248 p249) ?_;rintro _ _ ⟨v250,-,rfl,rfl⟩
  refine tr aA 3 (.mk ?_)
  exact jW h2 v250 aW
  replace h2:=ct h2
  refine tc aA 6 (.mk ?_)
  obtain ⟨c251,hX,hj⟩:=gD h2;subst hj;replace h1:=hX.trans (fZ h1)
  obtain ⟨c252,hX,hj⟩:=gD h1;subst hj;replace h0:=hX.trans (fZ h0)
  obtain rfl:=bE h0
  refine wR hret (rT (rT .nil)) ?_
  exact bO.aS (.cons (.nil _) (.cons (.refl _) .nil))
  replace h2:=ct h2
  refine nD [0,0,2,7,15] (λi=>bif Nat.beq i 1 then ([2]) else bif Nat.beq i 2 then ([2]) else []) (λi=>[2]) 4 [0,1,2,3] mixed (by kernel_rfl) rfl rfl rfl rfl rfl rfl rfl rfl rfl rfl rfl rfl rfl Tryz.underlying9 ?_
  refine eP (λH hH=>gH rfl rfl .nil mP (bO.refl _) nK) ?_
  refine eF lW ?_
  refine eL bW ?_
  refine nO 23 (int 6) rfl (congrArg int (of_decide_eq_true e22)) ?_
  refine lF rfl rfl rfl rfl (λH hH=>mR rfl Tryz.underlying88 mJ rfl rfl (by decide) rfl) ?_
  refine ⟨_,rfl,rfl,λb253=>?_⟩
  refine tc aA 13 (.mk ?_)
  refine sY (aH (y:=aB false) (aI rfl rfl rfl) (congrArg aB (by decide))) ?_
  refine tr aA 4 (.mk ?_)
  obtain ⟨j254,h3,h2⟩:=bJ h2
  refine bL (Out:=λy H'=>(∃ (a:Unit) (k:Unit),a=j254/\y=.pt 2 v15 0 1/\H'=hk [(1,⟨131,2,true,true,w1_1,[[str x14.1,aB x14.2]]⟩),(2,⟨29,9,true,true,v15,[[int x13,int 0,int 0,int 0,int 0,int 0,int 0,int 0,.sc (.slice none 0 0)]]⟩),(4,⟨29,9,true,true,w2_1,y2_4.map aF.av⟩)])) rfl rfl rfl (aN rfl rfl (.cons rfl (.cons rfl .nil)) eG ?_) ?_
  refine dD (c:=_) Tryz.func40 rfl rfl ?_;intro Q hret hnorm
  refine tc aA 12 (.mk ?_)
  refine sY (aH (y:=aB true) (aI rfl rfl rfl) (congrArg aB (by decide))) ?_
  refine tr aA 10 (.mk ?_)
  obtain rfl:=bE h3
  refine dM (hret _ _ (hk [(1,⟨131,2,true,true,w1_1,[[str x14.1,aB x14.2]]⟩),(2,⟨29,9,true,true,v15,[[int x13,int 0,int 0,int 0,int 0,int 0,int 0,int 0,.sc (.slice none 0 0)]]⟩),(4,⟨29,9,true,true,w2_1,y2_4.map aF.av⟩)]) (.tmp rfl .nil) (HK.le ⟨rfl,rfl,rfl,trivial⟩) ?_)
  exact ⟨(),(),rfl,rfl,rfl⟩
  rintro y _ ⟨_,_,rfl,hc,rfl⟩
  subst hc
  refine tr aA 1 (.mk ?_)
  obtain ⟨p255,h2⟩:=cO h2
  obtain ⟨x256,e256,h2⟩:=aP h2
  obtain ⟨x257,e257,h2⟩:=aP h2
  refine bL rfl rfl rfl (aN rfl rfl (.cons rfl .nil) fP (PC.mono (fH (s:=x14) (id:=1) (aD:=w1_1) rfl p255) (R':=λy H'=>y=int x256/\H'=upd _ 1 (some (dI 131 w1_1 x257))) (λy H' h=>⟨h.1.trans (congrArg int e256),h.2.trans (d9 e257)⟩))) ?_;rintro _ _ ⟨rfl,rfl⟩
  refine tr aA 1 (.mk ?_)
  refine sS ⟨29,9,true,true,v15,[[int x13,int x256,int 0,int 0,int 0,int 0,int 0,int 0,.sc (.slice none 0 0)]]⟩ bW ?_
  refine tr aA 15 (.mk ?_)
  refine sY (aH (y:=aB false) (aI rfl rfl rfl) (congrArg aB (by decide))) ?_
  refine tr aA 4 (.mk ?_)
  obtain ⟨j258,h3,h2⟩:=bJ h2
  refine bL (Out:=λy H'=>(∃ (a:Unit) (k:Unit),a=j258/\y=.pt 2 v15 0 2/\H'=hk [(1,⟨131,2,true,true,w1_1,[[str x257.1,aB x257.2]]⟩),(2,⟨29,9,true,true,v15,[[int x13,int x256,int 0,int 0,int 0,int 0,int 0,int 0,.sc (.slice none 0 0)]]⟩),(4,⟨29,9,true,true,w2_1,y2_4.map aF.av⟩)])) rfl rfl rfl (aN rfl rfl (.cons rfl (.cons rfl .nil)) eG ?_) ?_
  refine dD (c:=_) Tryz.func40 rfl rfl ?_;intro Q hret hnorm
  refine tc aA 12 (.mk ?_)
  refine sY (aH (y:=aB false) (aI rfl rfl rfl) (congrArg aB (by decide))) ?_
  refine tr aA 5 (.mk ?_)
  refine sY (aH (y:=aB true) (aI rfl rfl rfl) (congrArg aB (by decide))) ?_
  refine tr aA 10 (.mk ?_)
  obtain rfl:=bE h3
  refine dM (hret _ _ (hk [(1,⟨131,2,true,true,w1_1,[[str x257.1,aB x257.2]]⟩),(2,⟨29,9,true,true,v15,[[int x13,int x256,int 0,int 0,int 0,int 0,int 0,int 0,.sc (.slice none 0 0)]]⟩),(4,⟨29,9,true,true,w2_1,y2_4.map aF.av⟩)]) (.tmp rfl .nil) (HK.le ⟨rfl,rfl,rfl,trivial⟩) ?_)
  exact ⟨(),(),rfl,rfl,rfl⟩
  rintro y _ ⟨_,_,rfl,hc,rfl⟩
  subst hc
  refine tr aA 1 (.mk ?_)
  obtain ⟨p259,h2⟩:=cO h2
  obtain ⟨x260,e260,h2⟩:=aP h2
  obtain ⟨x261,e261,h2⟩:=aP h2
  refine bL rfl rfl rfl (aN rfl rfl (.cons rfl .nil) fP (PC.mono (fH (s:=x257) (id:=1) (aD:=w1_1) rfl p259) (R':=λy H'=>y=int x260/\H'=upd _ 1 (some (dI 131 w1_1 x261))) (λy H' h=>⟨h.1.trans (congrArg int e260),h.2.trans (d9 e261)⟩))) ?_;rintro _ _ ⟨rfl,rfl⟩
  refine tr aA 1 (.mk ?_)
  refine sS ⟨29,9,true,true,v15,[[int x13,int x256,int x260,int 0,int 0,int 0,int 0,int 0,.sc (.slice none 0 0)]]⟩ bW ?_
  refine tr aA 15 (.mk ?_)
  refine sY (aH (y:=aB false) (aI rfl rfl rfl) (congrArg aB (by decide))) ?_
  refine tr aA 4 (.mk ?_)
  obtain ⟨j262,h3,h2⟩:=bJ h2
  refine bL (Out:=λy H'=>(∃ (a:Unit) (k:Unit),a=j262/\y=.pt 2 v15 0 3/\H'=hk [(1,⟨131,2,true,true,w1_1,[[str x261.1,aB x261.2]]⟩),(2,⟨29,9,true,true,v15,[[int x13,int x256,int x260,int 0,int 0,int 0,int 0,int 0,.sc (.slice none 0 0)]]⟩),(4,⟨29,9,true,true,w2_1,y2_4.map aF.av⟩)])) rfl rfl rfl (aN rfl rfl (.cons rfl (.cons rfl .nil)) eG ?_) ?_
  refine dD (c:=_) Tryz.func40 rfl rfl ?_;intro Q hret hnorm
  refine tc aA 12 (.mk ?_)
  refine sY (aH (y:=aB false) (aI rfl rfl rfl) (congrArg aB (by decide))) ?_
  refine tr aA 5 (.mk ?_)
  refine sY (aH (y:=aB false) (aI rfl rfl rfl) (congrArg aB (by decide))) ?_
  refine tr aA 5 (.mk ?_)
  refine sY (aH (y:=aB true) (aI rfl rfl rfl) (congrArg aB (by decide))) ?_
  refine tr aA 10 (.mk ?_)
  obtain rfl:=bE h3
  refine dM (hret _ _ (hk [(1,⟨131,2,true,true,w1_1,[[str x261.1,aB x261.2]]⟩),(2,⟨29,9,true,true,v15,[[int x13,int x256,int x260,int 0,int 0,int 0,int 0,int 0,.sc (.slice none 0 0)]]⟩),(4,⟨29,9,true,true,w2_1,y2_4.map aF.av⟩)]) (.tmp rfl .nil) (HK.le ⟨rfl,rfl,rfl,trivial⟩) ?_)
  exact ⟨(),(),rfl,rfl,rfl⟩
  rintro y _ ⟨_,_,rfl,hc,rfl⟩
  subst hc
  refine tr aA 1 (.mk ?_)
  obtain ⟨p263,h2⟩:=cO h2
  obtain ⟨x264,e264,h2⟩:=aP h2
  obtain ⟨x265,e265,h2⟩:=aP h2
  refine bL rfl rfl rfl (aN rfl rfl (.cons rfl .nil) fP (PC.mono (fH (s:=x261) (id:=1) (aD:=w1_1) rfl p263) (R':=λy H'=>y=int x264/\H'=upd _ 1 (some (dI 131 w1_1 x265))) (λy H' h=>⟨h.1.trans (congrArg int e264),h.2.trans (d9 e265)⟩))) ?_;rintro _ _ ⟨rfl,rfl⟩
  refine tr aA 1 (.mk ?_)
  refine sS ⟨29,9,true,true,v15,[[int x13,int x256,int x260,int x264,int 0,int 0,int 0,int 0,.sc (.slice none 0 0)]]⟩ bW ?_
  refine tr aA 15 (.mk ?_)
  refine sY (aH (y:=aB false) (aI rfl rfl rfl) (congrArg aB (by decide))) ?_
  refine tr aA 4 (.mk ?_)
  obtain ⟨j266,h3,h2⟩:=bJ h2
  refine bL (Out:=λy H'=>(∃ (a:Unit) (k:Unit),a=j266/\y=.pt 2 v15 0 5/\H'=hk [(1,⟨131,2,true,true,w1_1,[[str x265.1,aB x265.2]]⟩),(2,⟨29,9,true,true,v15,[[int x13,int x256,int x260,int x264,int 0,int 0,int 0,int 0,.sc (.slice none 0 0)]]⟩),(4,⟨29,9,true,true,w2_1,y2_4.map aF.av⟩)])) rfl rfl rfl (aN rfl rfl (.cons rfl (.cons rfl .nil)) eG ?_) ?_
  refine dD (c:=_) Tryz.func40 rfl rfl ?_;intro Q hret hnorm
  refine tc aA 12 (.mk ?_)
  refine sY (aH (y:=aB false) (aI rfl rfl rfl) (congrArg aB (by decide))) ?_
  refine tr aA 5 (.mk ?_)
  refine sY (aH (y:=aB false) (aI rfl rfl rfl) (congrArg aB (by decide))) ?_
  refine tr aA 5 (.mk ?_)
  refine sY (aH (y:=aB false) (aI rfl rfl rfl) (congrArg aB (by decide))) ?_
  refine tr aA 5 (.mk ?_)
  refine sY (aH (y:=aB false) (aI rfl rfl rfl) (congrArg aB (by decide))) ?_
  refine tr aA 5 (.mk ?_)
  refine sY (aH (y:=aB true) (aI rfl rfl rfl) (congrArg aB (by decide))) ?_
  refine tr aA 10 (.mk ?_)
  obtain rfl:=bE h3
  refine dM (hret _ _ (hk [(1,⟨131,2,true,true,w1_1,[[str x265.1,aB x265.2]]⟩),(2,⟨29,9,true,true,v15,[[int x13,int x256,int x260,int x264,int 0,int 0,int 0,int 0,.sc (.slice none 0 0)]]⟩),(4,⟨29,9,true,true,w2_1,y2_4.map aF.av⟩)]) (.tmp rfl .nil) (HK.le ⟨rfl,rfl,rfl,trivial⟩) ?_)
  exact ⟨(),(),rfl,rfl,rfl⟩
  rintro y _ ⟨_,_,rfl,hc,rfl⟩
  subst hc
  refine tr aA 1 (.mk ?_)
  obtain ⟨p267,h2⟩:=cO h2
  obtain ⟨x268,e268,h2⟩:=aP h2
  obtain ⟨x269,e269,h2⟩:=aP h2
  refine bL rfl rfl rfl (aN rfl rfl (.cons rfl .nil) fP (PC.mono (fH (s:=x265) (id:=1) (aD:=w1_1) rfl p267) (R':=λy H'=>y=int x268/\H'=upd _ 1 (some (dI 131 w1_1 x269))) (λy H' h=>⟨h.1.trans (congrArg int e268),h.2.trans (d9 e269)⟩))) ?_;rintro _ _ ⟨rfl,rfl⟩
  refine tr aA 1 (.mk ?_)
  refine sS ⟨29,9,true,true,v15,[[int x13,int x256,int x260,int x264,int 0,int x268,int 0,int 0,.sc (.slice none 0 0)]]⟩ bW ?_
  refine tr aA 8 (.mk ?_)
  refine jn h2 [2,3,4,5,6,15,16] [1,2,4] (λ(a:Bool) (k:Unit)=>[(45,aB a)]) (λa k=>[]) ⟨λj270 h3=>?_,?_⟩
  refine tc aA 2 (.mk ?_)
  refine sY (lV rfl rfl (.cons rfl .nil) mM (mF (s:=x269) (id:=1) (aD:=w1_1) rfl) (.sc _)) ?_
  refine tr aA 1 (.mk ?_)
  obtain ⟨x271,e271,h3⟩:=aP h3
  refine gX 40 (aB x271) rfl (congrArg aB e271) ?_
  refine gX 41 (aB x271) rfl (congrArg aB e271) ?_
  cases x271
  replace h3:=cf h3
  refine tr aA 1 (.mk ?_)
  obtain ⟨x272,e272,h3⟩:=bJ h3
  refine sY (gH rfl rfl (.cons rfl .nil) lM (.cons (bO.agg (.cons (.refl _) (.cons (.refl _) (.cons (.refl _) (.cons (.refl _) (.cons (.refl _) (.cons (.refl _) (.cons (.refl _) (.cons (.refl _) (.cons (.nil _) .nil)))))))))) .nil) (lS e272)) ?_
  refine nb aA h3 λx273 h3=>?_
  refine tr aA 2 (.mk ?_)
  exact lf h3 () aW
  replace h3:=ct h3
  refine tr aA 5 (.mk ?_)
  exact lf h3 () aW
  rintro y5_1 _ h2
  cases y5_1
  replace h2:=cf h2
  refine tc aA 5 (.mk ?_)
  refine sY (dQ (ps:=[(0,_)]) (rows:=[[int x13,int x256,int x260,int x264,int 0,int x268,int 0,int 0,.sc (.slice none 0 0)]]) rfl Tryz.underlying27 iC (.cons rfl .nil) (by kernel_rfl) rfl rfl rfl) ?_
  obtain ⟨x274,e274,h2⟩:=aP h2
  obtain ⟨p275,h2⟩:=cO h2
  refine bL rfl rfl rfl (iB (g:=aF.av) (l:=y2_4) (m:=[(⟨x13,x256,x260,x264,0,x268,0,0,[]⟩:aF)]) .any rfl Tryz.underlying27 iC mZ rfl rfl rfl rfl rfl rfl rfl rfl rfl rfl (Eq.symm rfl) (fV.list (.cons (.cons (.refl _) (.cons (.refl _) (.cons (.refl _) (.cons (.refl _) (.cons (.refl _) (.cons (.refl _) (.cons (.refl _) (.cons (.refl _) (.cons (.nil _) .nil))))))))) .nil)) (λ_=>rfl) e274 p275) ?_;rintro _ _ ⟨v276,-,rfl,rfl⟩
  refine tr aA 3 (.mk ?_)
  exact jW h2 v276 aW
  replace h2:=ct h2
  refine tc aA 6 (.mk ?_)
  obtain ⟨c277,hX,hj⟩:=gD h2;subst hj;replace h1:=hX.trans (fZ h1)
  obtain ⟨c278,hX,hj⟩:=gD h1;subst hj;replace h0:=hX.trans (fZ h0)
  obtain rfl:=bE h0
  refine wR hret (rT (rT .nil)) ?_
  exact bO.aS (.cons (.nil _) (.cons (.refl _) .nil))
  replace h2:=ct h2
  refine nD [0,0,2,7,15] (λi=>bif Nat.beq i 1 then ([2]) else bif Nat.beq i 2 then ([2]) else []) (λi=>[2]) 4 [0,1,2,3] mixed (by kernel_rfl) rfl rfl rfl rfl rfl rfl rfl rfl rfl rfl rfl rfl rfl Tryz.underlying9 ?_
  refine eP (λH hH=>gH rfl rfl .nil mP (bO.refl _) nK) ?_
  refine eF lW ?_
  refine eL bW ?_
  refine nO 23 (int 5) rfl (congrArg int (of_decide_eq_true e21)) ?_
  refine lF rfl rfl rfl rfl (λH hH=>mR rfl Tryz.underlying88 mJ rfl rfl (by decide) rfl) ?_
  refine ⟨_,rfl,rfl,λb279=>?_⟩
  refine tc aA 13 (.mk ?_)
  refine sY (aH (y:=aB false) (aI rfl rfl rfl) (congrArg aB (by decide))) ?_
  refine tr aA 4 (.mk ?_)
  obtain ⟨j280,h3,h2⟩:=bJ h2
  refine bL (Out:=λy H'=>(∃ (a:Unit) (k:Unit),a=j280/\y=.pt 2 v15 0 5/\H'=hk [(1,⟨131,2,true,true,w1_1,[[str x14.1,aB x14.2]]⟩),(2,⟨29,9,true,true,v15,[[int x13,int 0,int 0,int 0,int 0,int 0,int 0,int 0,.sc (.slice none 0 0)]]⟩),(4,⟨29,9,true,true,w2_1,y2_4.map aF.av⟩)])) rfl rfl rfl (aN rfl rfl (.cons rfl (.cons rfl .nil)) eG ?_) ?_
  refine dD (c:=_) Tryz.func40 rfl rfl ?_;intro Q hret hnorm
  refine tc aA 12 (.mk ?_)
  refine sY (aH (y:=aB false) (aI rfl rfl rfl) (congrArg aB (by decide))) ?_
  refine tr aA 5 (.mk ?_)
  refine sY (aH (y:=aB false) (aI rfl rfl rfl) (congrArg aB (by decide))) ?_
  refine tr aA 5 (.mk ?_)
  refine sY (aH (y:=aB false) (aI rfl rfl rfl) (congrArg aB (by decide))) ?_
  refine tr aA 5 (.mk ?_)
  refine sY (aH (y:=aB false) (aI rfl rfl rfl) (congrArg aB (by decide))) ?_
  refine tr aA 5 (.mk ?_)
  refine sY (aH (y:=aB true) (aI rfl rfl rfl) (congrArg aB (by decide))) ?_
  refine tr aA 10 (.mk ?_)
  obtain rfl:=bE h3
  refine dM (hret _ _ (hk [(1,⟨131,2,true,true,w1_1,[[str x14.1,aB x14.2]]⟩),(2,⟨29,9,true,true,v15,[[int x13,int 0,int 0,int 0,int 0,int 0,int 0,int 0,.sc (.slice none 0 0)]]⟩),(4,⟨29,9,true,true,w2_1,y2_4.map aF.av⟩)]) (.tmp rfl .nil) (HK.le ⟨rfl,rfl,rfl,trivial⟩) ?_)
  exact ⟨(),(),rfl,rfl,rfl⟩
  rintro y _ ⟨_,_,rfl,hc,rfl⟩
  subst hc
  refine tr aA 1 (.mk ?_)
  obtain ⟨p281,h2⟩:=cO h2
  obtain ⟨x282,e282,h2⟩:=aP h2
  obtain ⟨x283,e283,h2⟩:=aP h2
  refine bL rfl rfl rfl (aN rfl rfl (.cons rfl .nil) fP (PC.mono (fH (s:=x14) (id:=1) (aD:=w1_1) rfl p281) (R':=λy H'=>y=int x282/\H'=upd _ 1 (some (dI 131 w1_1 x283))) (λy H' h=>⟨h.1.trans (congrArg int e282),h.2.trans (d9 e283)⟩))) ?_;rintro _ _ ⟨rfl,rfl⟩
  refine tr aA 1 (.mk ?_)
  refine sS ⟨29,9,true,true,v15,[[int x13,int 0,int 0,int 0,int 0,int x282,int 0,int 0,.sc (.slice none 0 0)]]⟩ bW ?_
  refine tr aA 15 (.mk ?_)
  refine sY (aH (y:=aB false) (aI rfl rfl rfl) (congrArg aB (by decide))) ?_
  refine tr aA 4 (.mk ?_)
  obtain ⟨j284,h3,h2⟩:=bJ h2
  refine bL (Out:=λy H'=>(∃ (a:Unit) (k:Unit),a=j284/\y=.pt 2 v15 0 6/\H'=hk [(1,⟨131,2,true,true,w1_1,[[str x283.1,aB x283.2]]⟩),(2,⟨29,9,true,true,v15,[[int x13,int 0,int 0,int 0,int 0,int x282,int 0,int 0,.sc (.slice none 0 0)]]⟩),(4,⟨29,9,true,true,w2_1,y2_4.map aF.av⟩)])) rfl rfl rfl (aN rfl rfl (.cons rfl (.cons rfl .nil)) eG ?_) ?_
  refine dD (c:=_) Tryz.func40 rfl rfl ?_;intro Q hret hnorm
  refine tc aA 12 (.mk ?_)
  refine sY (aH (y:=aB false) (aI rfl rfl rfl) (congrArg aB (by decide))) ?_
  refine tr aA 5 (.mk ?_)
  refine sY (aH (y:=aB false) (aI rfl rfl rfl) (congrArg aB (by decide))) ?_
  refine tr aA 5 (.mk ?_)
  refine sY (aH (y:=aB false) (aI rfl rfl rfl) (congrArg aB (by decide))) ?_
  refine tr aA 5 (.mk ?_)
  refine sY (aH (y:=aB false) (aI rfl rfl rfl) (congrArg aB (by decide))) ?_
  refine tr aA 5 (.mk ?_)
  refine sY (aH (y:=aB false) (aI rfl rfl rfl) (congrArg aB (by decide))) ?_
  refine tr aA 5 (.mk ?_)
  refine sY (aH (y:=aB true) (aI rfl rfl rfl) (congrArg aB (by decide))) ?_
  refine tr aA 10 (.mk ?_)
  obtain rfl:=bE h3
  refine dM (hret _ _ (hk [(1,⟨131,2,true,true,w1_1,[[str x283.1,aB x283.2]]⟩),(2,⟨29,9,true,true,v15,[[int x13,int 0,int 0,int 0,int 0,int x282,int 0,int 0,.sc (.slice none 0 0)]]⟩),(4,⟨29,9,true,true,w2_1,y2_4.map aF.av⟩)]) (.tmp rfl .nil) (HK.le ⟨rfl,rfl,rfl,trivial⟩) ?_)
  exact ⟨(),(),rfl,rfl,rfl⟩
  rintro y _ ⟨_,_,rfl,hc,rfl⟩
  subst hc
  refine tr aA 1 (.mk ?_)
  obtain ⟨p285,h2⟩:=cO h2
  obtain ⟨x286,e286,h2⟩:=aP h2
  obtain ⟨x287,e287,h2⟩:=aP h2
  refine bL rfl rfl rfl (aN rfl rfl (.cons rfl .nil) fP (PC.mono (fH (s:=x283) (id:=1) (aD:=w1_1) rfl p285) (R':=λy H'=>y=int x286/\H'=upd _ 1 (some (dI 131 w1_1 x287))) (λy H' h=>⟨h.1.trans (congrArg int e286),h.2.trans (d9 e287)⟩))) ?_;rintro _ _ ⟨rfl,rfl⟩
  refine tr aA 1 (.mk ?_)
  refine sS ⟨29,9,true,true,v15,[[int x13,int 0,int 0,int 0,int 0,int x282,int x286,int 0,.sc (.slice none 0 0)]]⟩ bW ?_
  refine tr aA 15 (.mk ?_)
  refine sY (aH (y:=aB false) (aI rfl rfl rfl) (congrArg aB (by decide))) ?_
  refine tr aA 4 (.mk ?_)
  obtain ⟨j288,h3,h2⟩:=bJ h2
  refine bL (Out:=λy H'=>(∃ (a:Unit) (k:Unit),a=j288/\y=.pt 2 v15 0 7/\H'=hk [(1,⟨131,2,true,true,w1_1,[[str x287.1,aB x287.2]]⟩),(2,⟨29,9,true,true,v15,[[int x13,int 0,int 0,int 0,int 0,int x282,int x286,int 0,.sc (.slice none 0 0)]]⟩),(4,⟨29,9,true,true,w2_1,y2_4.map aF.av⟩)])) rfl rfl rfl (aN rfl rfl (.cons rfl (.cons rfl .nil)) eG ?_) ?_
  refine dD (c:=_) Tryz.func40 rfl rfl ?_;intro Q hret hnorm
  refine tc aA 12 (.mk ?_)
  refine sY (aH (y:=aB false) (aI rfl rfl rfl) (congrArg aB (by decide))) ?_
  refine tr aA 5 (.mk ?_)
  refine sY (aH (y:=aB false) (aI rfl rfl rfl) (congrArg aB (by decide))) ?_
  refine tr aA 5 (.mk ?_)
  refine sY (aH (y:=aB false) (aI rfl rfl rfl) (congrArg aB (by decide))) ?_
  refine tr aA 5 (.mk ?_)
  refine sY (aH (y:=aB false) (aI rfl rfl rfl) (congrArg aB (by decide))) ?_
  refine tr aA 5 (.mk ?_)
  refine sY (aH (y:=aB false) (aI rfl rfl rfl) (congrArg aB (by decide))) ?_
  refine tr aA 5 (.mk ?_)
  refine sY (aH (y:=aB false) (aI rfl rfl rfl) (congrArg aB (by decide))) ?_
  refine tr aA 12 (.mk ?_)
  obtain rfl:=bE h3
  refine dM (hret _ _ (hk [(1,⟨131,2,true,true,w1_1,[[str x287.1,aB x287.2]]⟩),(2,⟨29,9,true,true,v15,[[int x13,int 0,int 0,int 0,int 0,int x282,int x286,int 0,.sc (.slice none 0 0)]]⟩),(4,⟨29,9,true,true,w2_1,y2_4.map aF.av⟩)]) (.tmp rfl .nil) (HK.le ⟨rfl,rfl,rfl,trivial⟩) ?_)
  exact ⟨(),(),rfl,rfl,rfl⟩
  rintro y _ ⟨_,_,rfl,hc,rfl⟩
  subst hc
  refine tr aA 1 (.mk ?_)
  obtain ⟨p289,h2⟩:=cO h2
  obtain ⟨x290,e290,h2⟩:=aP h2
  obtain ⟨x291,e291,h2⟩:=aP h2
  refine bL rfl rfl rfl (aN rfl rfl (.cons rfl .nil) fP (PC.mono (fH (s:=x287) (id:=1) (aD:=w1_1) rfl p289) (R':=λy H'=>y=int x290/\H'=upd _ 1 (some (dI 131 w1_1 x291))) (λy H' h=>⟨h.1.trans (congrArg int e290),h.2.trans (d9 e291)⟩))) ?_;rintro _ _ ⟨rfl,rfl⟩
  refine tr aA 1 (.mk ?_)
  refine sS ⟨29,9,true,true,v15,[[int x13,int 0,int 0,int 0,int 0,int x282,int x286,int x290,.sc (.slice none 0 0)]]⟩ bW ?_
  refine tr aA 8 (.mk ?_)
  refine jn h2 [2,3,4,5,6,15,16] [1,2,4] (λ(a:Bool) (k:Unit)=>[(45,aB a)]) (λa k=>[]) ⟨λj292 h3=>?_,?_⟩
  refine tc aA 2 (.mk ?_)
  refine sY (lV rfl rfl (.cons rfl .nil) mM (mF (s:=x291) (id:=1) (aD:=w1_1) rfl) (.sc _)) ?_
  refine tr aA 1 (.mk ?_)
  obtain ⟨x293,e293,h3⟩:=aP h3
  refine gX 40 (aB x293) rfl (congrArg aB e293) ?_
  refine gX 41 (aB x293) rfl (congrArg aB e293) ?_
  cases x293
  replace h3:=cf h3
  refine tr aA 1 (.mk ?_)
  obtain ⟨x294,e294,h3⟩:=bJ h3
  refine sY (gH rfl rfl (.cons rfl .nil) lM (.cons (bO.agg (.cons (.refl _) (.cons (.refl _) (.cons (.refl _) (.cons (.refl _) (.cons (.refl _) (.cons (.refl _) (.cons (.refl _) (.cons (.refl _) (.cons (.nil _) .nil)))))))))) .nil) (lS e294)) ?_
  refine nb aA h3 λx295 h3=>?_
  refine tr aA 2 (.mk ?_)
  exact lf h3 () aW
  replace h3:=ct h3
  refine tr aA 5 (.mk ?_)
  exact lf h3 () aW
  rintro y5_1 _ h2
  cases y5_1
  replace h2:=cf h2
  refine tc aA 5 (.mk ?_)
  refine sY (dQ (ps:=[(0,_)]) (rows:=[[int x13,int 0,int 0,int 0,int 0,int x282,int x286,int x290,.sc (.slice none 0 0)]]) rfl Tryz.underlying27 iC (.cons rfl .nil) (by kernel_rfl) rfl rfl rfl) ?_
  obtain ⟨x296,e296,h2⟩:=aP h2
  obtain ⟨p297,h2⟩:=cO h2
  refine bL rfl rfl rfl (iB (g:=aF.av) (l:=y2_4) (m:=[(⟨x13,0,0,0,0,x282,x286,x290,[]⟩:aF)]) .any rfl Tryz.underlying27 iC mZ rfl rfl rfl rfl rfl rfl rfl rfl rfl rfl (Eq.symm rfl) (fV.list (.cons (.cons (.refl _) (.cons (.refl _) (.cons (.refl _) (.cons (.refl _) (.cons (.refl _) (.cons (.refl _) (.cons (.refl _) (.cons (.refl _) (.cons (.nil _) .nil))))))))) .nil)) (λ_=>rfl) e296 p297) ?_;rintro _ _ ⟨v298,-,rfl,rfl⟩
  refine tr aA 3 (.mk ?_)
  exact jW h2 v298 aW
  replace h2:=ct h2
  refine tc aA 6 (.mk ?_)
  obtain ⟨c299,hX,hj⟩:=gD h2;subst hj;replace h1:=hX.trans (fZ h1)
  obtain ⟨c300,hX,hj⟩:=gD h1;subst hj;replace h0:=hX.trans (fZ h0)
  obtain rfl:=bE h0
  refine wR hret (rT (rT .nil)) ?_
  exact bO.aS (.cons (.nil _) (.cons (.refl _) .nil))
  replace h2:=ct h2
  refine nD [0,0,2,7,15] (λi=>bif Nat.beq i 1 then ([2]) else bif Nat.beq i 2 then ([2]) else []) (λi=>[2]) 4 [0,1,2,3] mixed (by kernel_rfl) rfl rfl rfl rfl rfl rfl rfl rfl rfl rfl rfl rfl rfl Tryz.underlying9 ?_
  refine eP (λH hH=>gH rfl rfl .nil mP (bO.refl _) nK) ?_
  refine eF lW ?_
  refine eL bW ?_
  refine nO 23 (int 4) rfl (congrArg int (of_decide_eq_true e20)) ?_
  refine lF rfl rfl rfl rfl (λH hH=>mR rfl Tryz.underlying88 mJ rfl rfl (by decide) rfl) ?_
  refine ⟨_,rfl,rfl,λb301=>?_⟩
  refine tc aA 13 (.mk ?_)
  refine sY (aH (y:=aB false) (aI rfl rfl rfl) (congrArg aB (by decide))) ?_
  refine tr aA 4 (.mk ?_)
  obtain ⟨j302,h3,h2⟩:=bJ h2
  refine bL (Out:=λy H'=>(∃ (a:Unit) (k:Unit),a=j302/\y=.pt 2 v15 0 1/\H'=hk [(1,⟨131,2,true,true,w1_1,[[str x14.1,aB x14.2]]⟩),(2,⟨29,9,true,true,v15,[[int x13,int 0,int 0,int 0,int 0,int 0,int 0,int 0,.sc (.slice none 0 0)]]⟩),(4,⟨29,9,true,true,w2_1,y2_4.map aF.av⟩)])) rfl rfl rfl (aN rfl rfl (.cons rfl (.cons rfl .nil)) eG ?_) ?_
  refine dD (c:=_) Tryz.func40 rfl rfl ?_;intro Q hret hnorm
  refine tc aA 12 (.mk ?_)
  refine sY (aH (y:=aB true) (aI rfl rfl rfl) (congrArg aB (by decide))) ?_
  refine tr aA 10 (.mk ?_)
  obtain rfl:=bE h3
  refine dM (hret _ _ (hk [(1,⟨131,2,true,true,w1_1,[[str x14.1,aB x14.2]]⟩),(2,⟨29,9,true,true,v15,[[int x13,int 0,int 0,int 0,int 0,int 0,int 0,int 0,.sc (.slice none 0 0)]]⟩),(4,⟨29,9,true,true,w2_1,y2_4.map aF.av⟩)]) (.tmp rfl .nil) (HK.le ⟨rfl,rfl,rfl,trivial⟩) ?_)
  exact ⟨(),(),rfl,rfl,rfl⟩
  rintro y _ ⟨_,_,rfl,hc,rfl⟩
  subst hc
  refine tr aA 1 (.mk ?_)
  obtain ⟨p303,h2⟩:=cO h2
  obtain ⟨x304,e304,h2⟩:=aP h2
  obtain ⟨x305,e305,h2⟩:=aP h2
  refine bL rfl rfl rfl (aN rfl rfl (.cons rfl .nil) fP (PC.mono (fH (s:=x14) (id:=1) (aD:=w1_1) rfl p303) (R':=λy H'=>y=int x304/\H'=upd _ 1 (some (dI 131 w1_1 x305))) (λy H' h=>⟨h.1.trans (congrArg int e304),h.2.trans (d9 e305)⟩))) ?_;rintro _ _ ⟨rfl,rfl⟩
  refine tr aA 1 (.mk ?_)
  refine sS ⟨29,9,true,true,v15,[[int x13,int x304,int 0,int 0,int 0,int 0,int 0,int 0,.sc (.slice none 0 0)]]⟩ bW ?_
  refine tr aA 15 (.mk ?_)
  refine sY (aH (y:=aB false) (aI rfl rfl rfl) (congrArg aB (by decide))) ?_
  refine tr aA 4 (.mk ?_)
  obtain ⟨j306,h3,h2⟩:=bJ h2
  refine bL (Out:=λy H'=>(∃ (a:Unit) (k:Unit),a=j306/\y=.pt 2 v15 0 2/\H'=hk [(1,⟨131,2,true,true,w1_1,[[str x305.1,aB x305.2]]⟩),(2,⟨29,9,true,true,v15,[[int x13,int x304,int 0,int 0,int 0,int 0,int 0,int 0,.sc (.slice none 0 0)]]⟩),(4,⟨29,9,true,true,w2_1,y2_4.map aF.av⟩)])) rfl rfl rfl (aN rfl rfl (.cons rfl (.cons rfl .nil)) eG ?_) ?_
  refine dD (c:=_) Tryz.func40 rfl rfl ?_;intro Q hret hnorm
  refine tc aA 12 (.mk ?_)
  refine sY (aH (y:=aB false) (aI rfl rfl rfl) (congrArg aB (by decide))) ?_
  refine tr aA 5 (.mk ?_)
  refine sY (aH (y:=aB true) (aI rfl rfl rfl) (congrArg aB (by decide))) ?_
  refine tr aA 10 (.mk ?_)
  obtain rfl:=bE h3
  refine dM (hret _ _ (hk [(1,⟨131,2,true,true,w1_1,[[str x305.1,aB x305.2]]⟩),(2,⟨29,9,true,true,v15,[[int x13,int x304,int 0,int 0,int 0,int 0,int 0,int 0,.sc (.slice none 0 0)]]⟩),(4,⟨29,9,true,true,w2_1,y2_4.map aF.av⟩)]) (.tmp rfl .nil) (HK.le ⟨rfl,rfl,rfl,trivial⟩) ?_)
  exact ⟨(),(),rfl,rfl,rfl⟩
  rintro y _ ⟨_,_,rfl,hc,rfl⟩
  subst hc
  refine tr aA 1 (.mk ?_)
  obtain ⟨p307,h2⟩:=cO h2
  obtain ⟨x308,e308,h2⟩:=aP h2
  obtain ⟨x309,e309,h2⟩:=aP h2
  refine bL rfl rfl rfl (aN rfl rfl (.cons rfl .nil) fP (PC.mono (fH (s:=x305) (id:=1) (aD:=w1_1) rfl p307) (R':=λy H'=>y=int x308/\H'=upd _ 1 (some (dI 131 w1_1 x309))) (λy H' h=>⟨h.1.trans (congrArg int e308),h.2.trans (d9 e309)⟩))) ?_;rintro _ _ ⟨rfl,rfl⟩
  refine tr aA 1 (.mk ?_)
  refine sS ⟨29,9,true,true,v15,[[int x13,int x304,int x308,int 0,int 0,int 0,int 0,int 0,.sc (.slice none 0 0)]]⟩ bW ?_
  refine tr aA 15 (.mk ?_)
  refine sY (aH (y:=aB false) (aI rfl rfl rfl) (congrArg aB (by decide))) ?_
  refine tr aA 4 (.mk ?_)
  obtain ⟨j310,h3,h2⟩:=bJ h2
  refine bL (Out:=λy H'=>(∃ (a:Unit) (k:Unit),a=j310/\y=.pt 2 v15 0 3/\H'=hk [(1,⟨131,2,true,true,w1_1,[[str x309.1,aB x309.2]]⟩),(2,⟨29,9,true,true,v15,[[int x13,int x304,int x308,int 0,int 0,int 0,int 0,int 0,.sc (.slice none 0 0)]]⟩),(4,⟨29,9,true,true,w2_1,y2_4.map aF.av⟩)])) rfl rfl rfl (aN rfl rfl (.cons rfl (.cons rfl .nil)) eG ?_) ?_
  refine dD (c:=_) Tryz.func40 rfl rfl ?_;intro Q hret hnorm
  refine tc aA 12 (.mk ?_)
  refine sY (aH (y:=aB false) (aI rfl rfl rfl) (congrArg aB (by decide))) ?_
  refine tr aA 5 (.mk ?_)
  refine sY (aH (y:=aB false) (aI rfl rfl rfl) (congrArg aB (by decide))) ?_
  refine tr aA 5 (.mk ?_)
  refine sY (aH (y:=aB true) (aI rfl rfl rfl) (congrArg aB (by decide))) ?_
  refine tr aA 10 (.mk ?_)
  obtain rfl:=bE h3
  refine dM (hret _ _ (hk [(1,⟨131,2,true,true,w1_1,[[str x309.1,aB x309.2]]⟩),(2,⟨29,9,true,true,v15,[[int x13,int x304,int x308,int 0,int 0,int 0,int 0,int 0,.sc (.slice none 0 0)]]⟩),(4,⟨29,9,true,true,w2_1,y2_4.map aF.av⟩)]) (.tmp rfl .nil) (HK.le ⟨rfl,rfl,rfl,trivial⟩) ?_)
  exact ⟨(),(),rfl,rfl,rfl⟩
  rintro y _ ⟨_,_,rfl,hc,rfl⟩
  subst hc
  refine tr aA 1 (.mk ?_)
  obtain ⟨p311,h2⟩:=cO h2
  obtain ⟨x312,e312,h2⟩:=aP h2
  obtain ⟨x313,e313,h2⟩:=aP h2
  refine bL rfl rfl rfl (aN rfl rfl (.cons rfl .nil) fP (PC.mono (fH (s:=x309) (id:=1) (aD:=w1_1) rfl p311) (R':=λy H'=>y=int x312/\H'=upd _ 1 (some (dI 131 w1_1 x313))) (λy H' h=>⟨h.1.trans (congrArg int e312),h.2.trans (d9 e313)⟩))) ?_;rintro _ _ ⟨rfl,rfl⟩
  refine tr aA 1 (.mk ?_)
  refine sS ⟨29,9,true,true,v15,[[int x13,int x304,int x308,int x312,int 0,int 0,int 0,int 0,.sc (.slice none 0 0)]]⟩ bW ?_
  refine tr aA 15 (.mk ?_)
  refine sY (aH (y:=aB false) (aI rfl rfl rfl) (congrArg aB (by decide))) ?_
  refine tr aA 4 (.mk ?_)
  obtain ⟨j314,h3,h2⟩:=bJ h2
  refine bL (Out:=λy H'=>(∃ (a:Unit) (k:Unit),a=j314/\y=.pt 2 v15 0 5/\H'=hk [(1,⟨131,2,true,true,w1_1,[[str x313.1,aB x313.2]]⟩),(2,⟨29,9,true,true,v15,[[int x13,int x304,int x308,int x312,int 0,int 0,int 0,int 0,.sc (.slice none 0 0)]]⟩),(4,⟨29,9,true,true,w2_1,y2_4.map aF.av⟩)])) rfl rfl rfl (aN rfl rfl (.cons rfl (.cons rfl .nil)) eG ?_) ?_
  refine dD (c:=_) Tryz.func40 rfl rfl ?_;intro Q hret hnorm
  refine tc aA 12 (.mk ?_)
  refine sY (aH (y:=aB false) (aI rfl rfl rfl) (congrArg aB (by decide))) ?_
  refine tr aA 5 (.mk ?_)
  refine sY (aH (y:=aB false) (aI rfl rfl rfl) (congrArg aB (by decide))) ?_
  refine tr aA 5 (.mk ?_)
  refine sY (aH (y:=aB false) (aI rfl rfl rfl) (congrArg aB (by decide))) ?_
  refine tr aA 5 (.mk ?_)
  refine sY (aH (y:=aB false) (aI rfl rfl rfl) (congrArg aB (by decide))) ?_
  refine tr aA 5 (.mk ?_)
  refine sY (aH (y:=aB true) (aI rfl rfl rfl) (congrArg aB (by decide))) ?_
  refine tr aA 10 (.mk ?_)
  obtain rfl:=bE h3
  refine dM (hret _ _ (hk [(1,⟨131,2,true,true,w1_1,[[str x313.1,aB x313.2]]⟩),(2,⟨29,9,true,true,v15,[[int x13,int x304,int x308,int x312,int 0,int 0,int 0,int 0,.sc (.slice none 0 0)]]⟩),(4,⟨29,9,true,true,w2_1,y2_4.map aF.av⟩)]) (.tmp rfl .nil) (HK.le ⟨rfl,rfl,rfl,trivial⟩) ?_)
  exact ⟨(),(),rfl,rfl,rfl⟩
  rintro y _ ⟨_,_,rfl,hc,rfl⟩
  subst hc
  refine tr aA 1 (.mk ?_)
  obtain ⟨p315,h2⟩:=cO h2
  obtain ⟨x316,e316,h2⟩:=aP h2
  obtain ⟨x317,e317,h2⟩:=aP h2
  refine bL rfl rfl rfl (aN rfl rfl (.cons rfl .nil) fP (PC.mono (fH (s:=x313) (id:=1) (aD:=w1_1) rfl p315) (R':=λy H'=>y=int x316/\H'=upd _ 1 (some (dI 131 w1_1 x317))) (λy H' h=>⟨h.1.trans (congrArg int e316),h.2.trans (d9 e317)⟩))) ?_;rintro _ _ ⟨rfl,rfl⟩
  refine tr aA 1 (.mk ?_)
  refine sS ⟨29,9,true,true,v15,[[int x13,int x304,int x308,int x312,int 0,int x316,int 0,int 0,.sc (.slice none 0 0)]]⟩ bW ?_
  refine tr aA 15 (.mk ?_)
  refine sY (aH (y:=aB false) (aI rfl rfl rfl) (congrArg aB (by decide))) ?_
  refine tr aA 4 (.mk ?_)
  obtain ⟨j318,h3,h2⟩:=bJ h2
  refine bL (Out:=λy H'=>(∃ (a:Unit) (k:Unit),a=j318/\y=.pt 2 v15 0 6/\H'=hk [(1,⟨131,2,true,true,w1_1,[[str x317.1,aB x317.2]]⟩),(2,⟨29,9,true,true,v15,[[int x13,int x304,int x308,int x312,int 0,int x316,int 0,int 0,.sc (.slice none 0 0)]]⟩),(4,⟨29,9,true,true,w2_1,y2_4.map aF.av⟩)])) rfl rfl rfl (aN rfl rfl (.cons rfl (.cons rfl .nil)) eG ?_) ?_
  refine dD (c:=_) Tryz.func40 rfl rfl ?_;intro Q hret hnorm
  refine tc aA 12 (.mk ?_)
  refine sY (aH (y:=aB false) (aI rfl rfl rfl) (congrArg aB (by decide))) ?_
  refine tr aA 5 (.mk ?_)
  refine sY (aH (y:=aB false) (aI rfl rfl rfl) (congrArg aB (by decide))) ?_
  refine tr aA 5 (.mk ?_)
  refine sY (aH (y:=aB false) (aI rfl rfl rfl) (congrArg aB (by decide))) ?_
  refine tr aA 5 (.mk ?_)
  refine sY (aH (y:=aB false) (aI rfl rfl rfl) (congrArg aB (by decide))) ?_
  refine tr aA 5 (.mk ?_)
  refine sY (aH (y:=aB false) (aI rfl rfl rfl) (congrArg aB (by decide))) ?_
  refine tr aA 5 (.mk ?_)
  refine sY (aH (y:=aB true) (aI rfl rfl rfl) (congrArg aB (by decide))) ?_
  refine tr aA 10 (.mk ?_)
  obtain rfl:=bE h3
  refine dM (hret _ _ (hk [(1,⟨131,2,true,true,w1_1,[[str x317.1,aB x317.2]]⟩),(2,⟨29,9,true,true,v15,[[int x13,int x304,int x308,int x312,int 0,int x316,int 0,int 0,.sc (.slice none 0 0)]]⟩),(4,⟨29,9,true,true,w2_1,y2_4.map aF.av⟩)]) (.tmp rfl .nil) (HK.le ⟨rfl,rfl,rfl,trivial⟩) ?_)
  exact ⟨(),(),rfl,rfl,rfl⟩
  rintro y _ ⟨_,_,rfl,hc,rfl⟩
  subst hc
  refine tr aA 1 (.mk ?_)
  obtain ⟨p319,h2⟩:=cO h2
  obtain ⟨x320,e320,h2⟩:=aP h2
  obtain ⟨x321,e321,h2⟩:=aP h2
  refine bL rfl rfl rfl (aN rfl rfl (.cons rfl .nil) fP (PC.mono (fH (s:=x317) (id:=1) (aD:=w1_1) rfl p319) (R':=λy H'=>y=int x320/\H'=upd _ 1 (some (dI 131 w1_1 x321))) (λy H' h=>⟨h.1.trans (congrArg int e320),h.2.trans (d9 e321)⟩))) ?_;rintro _ _ ⟨rfl,rfl⟩
  refine tr aA 1 (.mk ?_)
  refine sS ⟨29,9,true,true,v15,[[int x13,int x304,int x308,int x312,int 0,int x316,int x320,int 0,.sc (.slice none 0 0)]]⟩ bW ?_
  refine tr aA 8 (.mk ?_)
  refine jn h2 [2,3,4,5,6,15,16] [1,2,4] (λ(a:Bool) (k:Unit)=>[(45,aB a)]) (λa k=>[]) ⟨λj322 h3=>?_,?_⟩
  refine tc aA 2 (.mk ?_)
  refine sY (lV rfl rfl (.cons rfl .nil) mM (mF (s:=x321) (id:=1) (aD:=w1_1) rfl) (.sc _)) ?_
  refine tr aA 1 (.mk ?_)
  obtain ⟨x323,e323,h3⟩:=aP h3
  refine gX 40 (aB x323) rfl (congrArg aB e323) ?_
  refine gX 41 (aB x323) rfl (congrArg aB e323) ?_
  cases x323
  replace h3:=cf h3
  refine tr aA 1 (.mk ?_)
  obtain ⟨x324,e324,h3⟩:=bJ h3
  refine sY (gH rfl rfl (.cons rfl .nil) lM (.cons (bO.agg (.cons (.refl _) (.cons (.refl _) (.cons (.refl _) (.cons (.refl _) (.cons (.refl _) (.cons (.refl _) (.cons (.refl _) (.cons (.refl _) (.cons (.nil _) .nil)))))))))) .nil) (lS e324)) ?_
  refine nb aA h3 λx325 h3=>?_
  refine tr aA 2 (.mk ?_)
  exact lf h3 () aW
  replace h3:=ct h3
  refine tr aA 5 (.mk ?_)
  exact lf h3 () aW
  rintro y5_1 _ h2
  cases y5_1
  replace h2:=cf h2
  refine tc aA 5 (.mk ?_)
  refine sY (dQ (ps:=[(0,_)]) (rows:=[[int x13,int x304,int x308,int x312,int 0,int x316,int x320,int 0,.sc (.slice none 0 0)]]) rfl Tryz.underlying27 iC (.cons rfl .nil) (by kernel_rfl) rfl rfl rfl) ?_
  obtain ⟨x326,e326,h2⟩:=aP h2
  obtain ⟨p327,h2⟩:=cO h2
  refine bL rfl rfl rfl (iB (g:=aF.av) (l:=y2_4) (m:=[(⟨x13,x304,x308,x312,0,x316,x320,0,[]⟩:aF)]) .any rfl Tryz.underlying27 iC mZ rfl rfl rfl rfl rfl rfl rfl rfl rfl rfl (Eq.symm rfl) (fV.list (.cons (.cons (.refl _) (.cons (.refl _) (.cons (.refl _) (.cons (.refl _) (.cons (.refl _) (.cons (.refl _) (.cons (.refl _) (.cons (.refl _) (.cons (.nil _) .nil))))))))) .nil)) (λ_=>rfl) e326 p327) ?_;rintro _ _ ⟨v328,-,rfl,rfl⟩
  refine tr aA 3 (.mk ?_)
  exact jW h2 v328 aW
  replace h2:=ct h2
  refine tc aA 6 (.mk ?_)
  obtain ⟨c329,hX,hj⟩:=gD h2;subst hj;replace h1:=hX.trans (fZ h1)
  obtain ⟨c330,hX,hj⟩:=gD h1;subst hj;replace h0:=hX.trans (fZ h0)
  obtain rfl:=bE h0
  refine wR hret (rT (rT .nil)) ?_
  exact bO.aS (.cons (.nil _) (.cons (.refl _) .nil))
  replace h2:=ct h2
  refine nD [0,0,2,7,15] (λi=>bif Nat.beq i 1 then ([2]) else bif Nat.beq i 2 then ([2]) else []) (λi=>[2]) 4 [0,1,2,3] mixed (by kernel_rfl) rfl rfl rfl rfl rfl rfl rfl rfl rfl rfl rfl rfl rfl Tryz.underlying9 ?_
  refine eP (λH hH=>gH rfl rfl .nil mP (bO.refl _) nK) ?_
  refine eF lW ?_
  refine eL bW ?_
  refine nO 23 (int 3) rfl (congrArg int (of_decide_eq_true e19)) ?_
  refine lF rfl rfl rfl rfl (λH hH=>mR rfl Tryz.underlying88 mJ rfl rfl (by decide) rfl) ?_
  refine ⟨_,rfl,rfl,λb331=>?_⟩
  refine tc aA 13 (.mk ?_)
  refine sY (aH (y:=aB false) (aI rfl rfl rfl) (congrArg aB (by decide))) ?_
  refine tr aA 4 (.mk ?_)
  obtain ⟨j332,h3,h2⟩:=bJ h2
  refine bL (Out:=λy H'=>(∃ (a:Unit) (k:Unit),a=j332/\y=.pt 2 v15 0 5/\H'=hk [(1,⟨131,2,true,true,w1_1,[[str x14.1,aB x14.2]]⟩),(2,⟨29,9,true,true,v15,[[int x13,int 0,int 0,int 0,int 0,int 0,int 0,int 0,.sc (.slice none 0 0)]]⟩),(4,⟨29,9,true,true,w2_1,y2_4.map aF.av⟩)])) rfl rfl rfl (aN rfl rfl (.cons rfl (.cons rfl .nil)) eG ?_) ?_
  refine dD (c:=_) Tryz.func40 rfl rfl ?_;intro Q hret hnorm
  refine tc aA 12 (.mk ?_)
  refine sY (aH (y:=aB false) (aI rfl rfl rfl) (congrArg aB (by decide))) ?_
  refine tr aA 5 (.mk ?_)
  refine sY (aH (y:=aB false) (aI rfl rfl rfl) (congrArg aB (by decide))) ?_
  refine tr aA 5 (.mk ?_)
  refine sY (aH (y:=aB false) (aI rfl rfl rfl) (congrArg aB (by decide))) ?_
  refine tr aA 5 (.mk ?_)
  refine sY (aH (y:=aB false) (aI rfl rfl rfl) (congrArg aB (by decide))) ?_
  refine tr aA 5 (.mk ?_)
  refine sY (aH (y:=aB true) (aI rfl rfl rfl) (congrArg aB (by decide))) ?_
  refine tr aA 10 (.mk ?_)
  obtain rfl:=bE h3
  refine dM (hret _ _ (hk [(1,⟨131,2,true,true,w1_1,[[str x14.1,aB x14.2]]⟩),(2,⟨29,9,true,true,v15,[[int x13,int 0,int 0,int 0,int 0,int 0,int 0,int 0,.sc (.slice none 0 0)]]⟩),(4,⟨29,9,true,true,w2_1,y2_4.map aF.av⟩)]) (.tmp rfl .nil) (HK.le ⟨rfl,rfl,rfl,trivial⟩) ?_)
  exact ⟨(),(),rfl,rfl,rfl⟩
  rintro y _ ⟨_,_,rfl,hc,rfl⟩
  subst hc
  refine tr aA 1 (.mk ?_)
  obtain ⟨p333,h2⟩:=cO h2
  obtain ⟨x334,e334,h2⟩:=aP h2
  obtain ⟨x335,e335,h2⟩:=aP h2
  refine bL rfl rfl rfl (aN rfl rfl (.cons rfl .nil) fP (PC.mono (fH (s:=x14) (id:=1) (aD:=w1_1) rfl p333) (R':=λy H'=>y=int x334/\H'=upd _ 1 (some (dI 131 w1_1 x335))) (λy H' h=>⟨h.1.trans (congrArg int e334),h.2.trans (d9 e335)⟩))) ?_;rintro _ _ ⟨rfl,rfl⟩
  refine tr aA 1 (.mk ?_)
  refine sS ⟨29,9,true,true,v15,[[int x13,int 0,int 0,int 0,int 0,int x334,int 0,int 0,.sc (.slice none 0 0)]]⟩ bW ?_
  refine tr aA 15 (.mk ?_)
  refine sY (aH (y:=aB false) (aI rfl rfl rfl) (congrArg aB (by decide))) ?_
  refine tr aA 4 (.mk ?_)
  obtain ⟨j336,h3,h2⟩:=bJ h2
  refine bL (Out:=λy H'=>(∃ (a:Unit) (k:Unit),a=j336/\y=.pt 2 v15 0 7/\H'=hk [(1,⟨131,2,true,true,w1_1,[[str x335.1,aB x335.2]]⟩),(2,⟨29,9,true,true,v15,[[int x13,int 0,int 0,int 0,int 0,int x334,int 0,int 0,.sc (.slice none 0 0)]]⟩),(4,⟨29,9,true,true,w2_1,y2_4.map aF.av⟩)])) rfl rfl rfl (aN rfl rfl (.cons rfl (.cons rfl .nil)) eG ?_) ?_
  refine dD (c:=_) Tryz.func40 rfl rfl ?_;intro Q hret hnorm
  refine tc aA 12 (.mk ?_)
  refine sY (aH (y:=aB false) (aI rfl rfl rfl) (congrArg aB (by decide))) ?_
  refine tr aA 5 (.mk ?_)
  refine sY (aH (y:=aB false) (aI rfl rfl rfl) (congrArg aB (by decide))) ?_
  refine tr aA 5 (.mk ?_)
  refine sY (aH (y:=aB false) (aI rfl rfl rfl) (congrArg aB (by decide))) ?_
  refine tr aA 5 (.mk ?_)
  refine sY (aH (y:=aB false) (aI rfl rfl rfl) (congrArg aB (by decide))) ?_
  refine tr aA 5 (.mk ?_)
  refine sY (aH (y:=aB false) (aI rfl rfl rfl) (congrArg aB (by decide))) ?_
  refine tr aA 5 (.mk ?_)
  refine sY (aH (y:=aB false) (aI rfl rfl rfl) (congrArg aB (by decide))) ?_
  refine tr aA 12 (.mk ?_)
  obtain rfl:=bE h3
  refine dM (hret _ _ (hk [(1,⟨131,2,true,true,w1_1,[[str x335.1,aB x335.2]]⟩),(2,⟨29,9,true,true,v15,[[int x13,int 0,int 0,int 0,int 0,int x334,int 0,int 0,.sc (.slice none 0 0)]]⟩),(4,⟨29,9,true,true,w2_1,y2_4.map aF.av⟩)]) (.tmp rfl .nil) (HK.le ⟨rfl,rfl,rfl,trivial⟩) ?_)
  exact ⟨(),(),rfl,rfl,rfl⟩
  rintro y _ ⟨_,_,rfl,hc,rfl⟩
  subst hc
  refine tr aA 1 (.mk ?_)
  obtain ⟨p337,h2⟩:=cO h2
  obtain ⟨x338,e338,h2⟩:=aP h2
  obtain ⟨x339,e339,h2⟩:=aP h2
  refine bL rfl rfl rfl (aN rfl rfl (.cons rfl .nil) fP (PC.mono (fH (s:=x335) (id:=1) (aD:=w1_1) rfl p337) (R':=λy H'=>y=int x338/\H'=upd _ 1 (some (dI 131 w1_1 x339))) (λy H' h=>⟨h.1.trans (congrArg int e338),h.2.trans (d9 e339)⟩))) ?_;rintro _ _ ⟨rfl,rfl⟩
  refine tr aA 1 (.mk ?_)
  refine sS ⟨29,9,true,true,v15,[[int x13,int 0,int 0,int 0,int 0,int x334,int 0,int x338,.sc (.slice none 0 0)]]⟩ bW ?_
  refine tr aA 8 (.mk ?_)
  refine jn h2 [2,3,4,5,6,15,16] [1,2,4] (λ(a:Bool) (k:Unit)=>[(45,aB a)]) (λa k=>[]) ⟨λj340 h3=>?_,?_⟩
  refine tc aA 2 (.mk ?_)
  refine sY (lV rfl rfl (.cons rfl .nil) mM (mF (s:=x339) (id:=1) (aD:=w1_1) rfl) (.sc _)) ?_
  refine tr aA 1 (.mk ?_)
  obtain ⟨x341,e341,h3⟩:=aP h3
  refine gX 40 (aB x341) rfl (congrArg aB e341) ?_
  refine gX 41 (aB x341) rfl (congrArg aB e341) ?_
  cases x341
  replace h3:=cf h3
  refine tr aA 1 (.mk ?_)
  obtain ⟨x342,e342,h3⟩:=bJ h3
  refine sY (gH rfl rfl (.cons rfl .nil) lM (.cons (bO.agg (.cons (.refl _) (.cons (.refl _) (.cons (.refl _) (.cons (.refl _) (.cons (.refl _) (.cons (.refl _) (.cons (.refl _) (.cons (.refl _) (.cons (.nil _) .nil)))))))))) .nil) (lS e342)) ?_
  refine nb aA h3 λx343 h3=>?_
  refine tr aA 2 (.mk ?_)
  exact lf h3 () aW
  replace h3:=ct h3
  refine tr aA 5 (.mk ?_)
  exact lf h3 () aW
  rintro y5_1 _ h2
  cases y5_1
  replace h2:=cf h2
  refine tc aA 5 (.mk ?_)
  refine sY (dQ (ps:=[(0,_)]) (rows:=[[int x13,int 0,int 0,int 0,int 0,int x334,int 0,int x338,.sc (.slice none 0 0)]]) rfl Tryz.underlying27 iC (.cons rfl .nil) (by kernel_rfl) rfl rfl rfl) ?_
  obtain ⟨x344,e344,h2⟩:=aP h2
  obtain ⟨p345,h2⟩:=cO h2
  refine bL rfl rfl rfl (iB (g:=aF.av) (l:=y2_4) (m:=[(⟨x13,0,0,0,0,x334,0,x338,[]⟩:aF)]) .any rfl Tryz.underlying27 iC mZ rfl rfl rfl rfl rfl rfl rfl rfl rfl rfl (Eq.symm rfl) (fV.list (.cons (.cons (.refl _) (.cons (.refl _) (.cons (.refl _) (.cons (.refl _) (.cons (.refl _) (.cons (.refl _) (.cons (.refl _) (.cons (.refl _) (.cons (.nil _) .nil))))))))) .nil)) (λ_=>rfl) e344 p345) ?_;rintro _ _ ⟨v346,-,rfl,rfl⟩
  refine tr aA 3 (.mk ?_)
  exact jW h2 v346 aW
  replace h2:=ct h2
  refine tc aA 6 (.mk ?_)
  obtain ⟨c347,hX,hj⟩:=gD h2;subst hj;replace h1:=hX.trans (fZ h1)
  obtain ⟨c348,hX,hj⟩:=gD h1;subst hj;replace h0:=hX.trans (fZ h0)
  obtain rfl:=bE h0
  refine wR hret (rT (rT .nil)) ?_
  exact bO.aS (.cons (.nil _) (.cons (.refl _) .nil))
  replace h2:=ct h2
  refine nD [0,0,2,7,15] (λi=>bif Nat.beq i 1 then ([2]) else bif Nat.beq i 2 then ([2]) else []) (λi=>[2]) 4 [0,1,2,3] mixed (by kernel_rfl) rfl rfl rfl rfl rfl rfl rfl rfl rfl rfl rfl rfl rfl Tryz.underlying9 ?_
  refine eP (λH hH=>gH rfl rfl .nil mP (bO.refl _) nK) ?_
  refine eF lW ?_
  refine eL bW ?_
  refine nO 23 (int 2) rfl (congrArg int (of_decide_eq_true e18)) ?_
  refine lF rfl rfl rfl rfl (λH hH=>mR rfl Tryz.underlying88 mJ rfl rfl (by decide) rfl) ?_
  refine ⟨_,rfl,rfl,λb349=>?_⟩
  refine tc aA 13 (.mk ?_)
  refine sY (aH (y:=aB false) (aI rfl rfl rfl) (congrArg aB (by decide))) ?_
  refine tr aA 4 (.mk ?_)
  obtain ⟨j350,h3,h2⟩:=bJ h2
  refine bL (Out:=λy H'=>(∃ (a:Unit) (k:Unit),a=j350/\y=.pt 2 v15 0 5/\H'=hk [(1,⟨131,2,true,true,w1_1,[[str x14.1,aB x14.2]]⟩),(2,⟨29,9,true,true,v15,[[int x13,int 0,int 0,int 0,int 0,int 0,int 0,int 0,.sc (.slice none 0 0)]]⟩),(4,⟨29,9,true,true,w2_1,y2_4.map aF.av⟩)])) rfl rfl rfl (aN rfl rfl (.cons rfl (.cons rfl .nil)) eG ?_) ?_
  refine dD (c:=_) Tryz.func40 rfl rfl ?_;intro Q hret hnorm
  refine tc aA 12 (.mk ?_)
  refine sY (aH (y:=aB false) (aI rfl rfl rfl) (congrArg aB (by decide))) ?_
  refine tr aA 5 (.mk ?_)
  refine sY (aH (y:=aB false) (aI rfl rfl rfl) (congrArg aB (by decide))) ?_
  refine tr aA 5 (.mk ?_)
  refine sY (aH (y:=aB false) (aI rfl rfl rfl) (congrArg aB (by decide))) ?_
  refine tr aA 5 (.mk ?_)
  refine sY (aH (y:=aB false) (aI rfl rfl rfl) (congrArg aB (by decide))) ?_
  refine tr aA 5 (.mk ?_)
  refine sY (aH (y:=aB true) (aI rfl rfl rfl) (congrArg aB (by decide))) ?_
  refine tr aA 10 (.mk ?_)
  obtain rfl:=bE h3
  refine dM (hret _ _ (hk [(1,⟨131,2,true,true,w1_1,[[str x14.1,aB x14.2]]⟩),(2,⟨29,9,true,true,v15,[[int x13,int 0,int 0,int 0,int 0,int 0,int 0,int 0,.sc (.slice none 0 0)]]⟩),(4,⟨29,9,true,true,w2_1,y2_4.map aF.av⟩)]) (.tmp rfl .nil) (HK.le ⟨rfl,rfl,rfl,trivial⟩) ?_)
  exact ⟨(),(),rfl,rfl,rfl⟩
  rintro y _ ⟨_,_,rfl,hc,rfl⟩
  subst hc
  refine tr aA 1 (.mk ?_)
  obtain ⟨p351,h2⟩:=cO h2
  obtain ⟨x352,e352,h2⟩:=aP h2
  obtain ⟨x353,e353,h2⟩:=aP h2
  refine bL rfl rfl rfl (aN rfl rfl (.cons rfl .nil) fP (PC.mono (fH (s:=x14) (id:=1) (aD:=w1_1) rfl p351) (R':=λy H'=>y=int x352/\H'=upd _ 1 (some (dI 131 w1_1 x353))) (λy H' h=>⟨h.1.trans (congrArg int e352),h.2.trans (d9 e353)⟩))) ?_;rintro _ _ ⟨rfl,rfl⟩
  refine tr aA 1 (.mk ?_)
  refine sS ⟨29,9,true,true,v15,[[int x13,int 0,int 0,int 0,int 0,int x352,int 0,int 0,.sc (.slice none 0 0)]]⟩ bW ?_
  refine tr aA 15 (.mk ?_)
  refine sY (aH (y:=aB false) (aI rfl rfl rfl) (congrArg aB (by decide))) ?_
  refine tr aA 4 (.mk ?_)
  obtain ⟨j354,h3,h2⟩:=bJ h2
  refine bL (Out:=λy H'=>(∃ (a:Unit) (k:Unit),a=j354/\y=.pt 2 v15 0 6/\H'=hk [(1,⟨131,2,true,true,w1_1,[[str x353.1,aB x353.2]]⟩),(2,⟨29,9,true,true,v15,[[int x13,int 0,int 0,int 0,int 0,int x352,int 0,int 0,.sc (.slice none 0 0)]]⟩),(4,⟨29,9,true,true,w2_1,y2_4.map aF.av⟩)])) rfl rfl rfl (aN rfl rfl (.cons rfl (.cons rfl .nil)) eG ?_) ?_
  refine dD (c:=_) Tryz.func40 rfl rfl ?_;intro Q hret hnorm
  refine tc aA 12 (.mk ?_)
  refine sY (aH (y:=aB false) (aI rfl rfl rfl) (congrArg aB (by decide))) ?_
  refine tr aA 5 (.mk ?_)
  refine sY (aH (y:=aB false) (aI rfl rfl rfl) (congrArg aB (by decide))) ?_
  refine tr aA 5 (.mk ?_)
  refine sY (aH (y:=aB false) (aI rfl rfl rfl) (congrArg aB (by decide))) ?_
  refine tr aA 5 (.mk ?_)
  refine sY (aH (y:=aB false) (aI rfl rfl rfl) (congrArg aB (by decide))) ?_
  refine tr aA 5 (.mk ?_)
  refine sY (aH (y:=aB false) (aI rfl rfl rfl) (congrArg aB (by decide))) ?_
  refine tr aA 5 (.mk ?_)
  refine sY (aH (y:=aB true) (aI rfl rfl rfl) (congrArg aB (by decide))) ?_
  refine tr aA 10 (.mk ?_)
  obtain rfl:=bE h3
  refine dM (hret _ _ (hk [(1,⟨131,2,true,true,w1_1,[[str x353.1,aB x353.2]]⟩),(2,⟨29,9,true,true,v15,[[int x13,int 0,int 0,int 0,int 0,int x352,int 0,int 0,.sc (.slice none 0 0)]]⟩),(4,⟨29,9,true,true,w2_1,y2_4.map aF.av⟩)]) (.tmp rfl .nil) (HK.le ⟨rfl,rfl,rfl,trivial⟩) ?_)
  exact ⟨(),(),rfl,rfl,rfl⟩
  rintro y _ ⟨_,_,rfl,hc,rfl⟩
  subst hc
  refine tr aA 1 (.mk ?_)
  obtain ⟨p355,h2⟩:=cO h2
  obtain ⟨x356,e356,h2⟩:=aP h2
  obtain ⟨x357,e357,h2⟩:=aP h2
  refine bL rfl rfl rfl (aN rfl rfl (.cons rfl .nil) fP (PC.mono (fH (s:=x353) (id:=1) (aD:=w1_1) rfl p355) (R':=λy H'=>y=int x356/\H'=upd _ 1 (some (dI 131 w1_1 x357))) (λy H' h=>⟨h.1.trans (congrArg int e356),h.2.trans (d9 e357)⟩))) ?_;rintro _ _ ⟨rfl,rfl⟩
  refine tr aA 1 (.mk ?_)
  refine sS ⟨29,9,true,true,v15,[[int x13,int 0,int 0,int 0,int 0,int x352,int x356,int 0,.sc (.slice none 0 0)]]⟩ bW ?_
  refine tr aA 15 (.mk ?_)
  refine sY (aH (y:=aB false) (aI rfl rfl rfl) (congrArg aB (by decide))) ?_
  refine tr aA 4 (.mk ?_)
  obtain ⟨j358,h3,h2⟩:=bJ h2
  refine bL (Out:=λy H'=>(∃ (a:Unit) (k:Unit),a=j358/\y=.pt 2 v15 0 7/\H'=hk [(1,⟨131,2,true,true,w1_1,[[str x357.1,aB x357.2]]⟩),(2,⟨29,9,true,true,v15,[[int x13,int 0,int 0,int 0,int 0,int x352,int x356,int 0,.sc (.slice none 0 0)]]⟩),(4,⟨29,9,true,true,w2_1,y2_4.map aF.av⟩)])) rfl rfl rfl (aN rfl rfl (.cons rfl (.cons rfl .nil)) eG ?_) ?_
  refine dD (c:=_) Tryz.func40 rfl rfl ?_;intro Q hret hnorm
  refine tc aA 12 (.mk ?_)
  refine sY (aH (y:=aB false) (aI rfl rfl rfl) (congrArg aB (by decide))) ?_
  refine tr aA 5 (.mk ?_)
  refine sY (aH (y:=aB false) (aI rfl rfl rfl) (congrArg aB (by decide))) ?_
  refine tr aA 5 (.mk ?_)
  refine sY (aH (y:=aB false) (aI rfl rfl rfl) (congrArg aB (by decide))) ?_
  refine tr aA 5 (.mk ?_)
  refine sY (aH (y:=aB false) (aI rfl rfl rfl) (congrArg aB (by decide))) ?_
  refine tr aA 5 (.mk ?_)
  refine sY (aH (y:=aB false) (aI rfl rfl rfl) (congrArg aB (by decide))) ?_
  refine tr aA 5 (.mk ?_)
  refine sY (aH (y:=aB false) (aI rfl rfl rfl) (congrArg aB (by decide))) ?_
  refine tr aA 12 (.mk ?_)
  obtain rfl:=bE h3
  refine dM (hret _ _ (hk [(1,⟨131,2,true,true,w1_1,[[str x357.1,aB x357.2]]⟩),(2,⟨29,9,true,true,v15,[[int x13,int 0,int 0,int 0,int 0,int x352,int x356,int 0,.sc (.slice none 0 0)]]⟩),(4,⟨29,9,true,true,w2_1,y2_4.map aF.av⟩)]) (.tmp rfl .nil) (HK.le ⟨rfl,rfl,rfl,trivial⟩) ?_)
  exact ⟨(),(),rfl,rfl,rfl⟩
  rintro y _ ⟨_,_,rfl,hc,rfl⟩
  subst hc
  refine tr aA 1 (.mk ?_)
  obtain ⟨p359,h2⟩:=cO h2
  obtain ⟨x360,e360,h2⟩:=aP h2
  obtain ⟨x361,e361,h2⟩:=aP h2
  refine bL rfl rfl rfl (aN rfl rfl (.cons rfl .nil) fP (PC.mono (fH (s:=x357) (id:=1) (aD:=w1_1) rfl p359) (R':=λy H'=>y=int x360/\H'=upd _ 1 (some (dI 131 w1_1 x361))) (λy H' h=>⟨h.1.trans (congrArg int e360),h.2.trans (d9 e361)⟩))) ?_;rintro _ _ ⟨rfl,rfl⟩
  refine tr aA 1 (.mk ?_)
  refine sS ⟨29,9,true,true,v15,[[int x13,int 0,int 0,int 0,int 0,int x352,int x356,int x360,.sc (.slice none 0 0)]]⟩ bW ?_
  refine tr aA 8 (.mk ?_)
  refine jn h2 [2,3,4,5,6,15,16] [1,2,4] (λ(a:Bool) (k:Unit)=>[(45,aB a)]) (λa k=>[]) ⟨λj362 h3=>?_,?_⟩
  refine tc aA 2 (.mk ?_)
  refine sY (lV rfl rfl (.cons rfl .nil) mM (mF (s:=x361) (id:=1) (aD:=w1_1) rfl) (.sc _)) ?_
  refine tr aA 1 (.mk ?_)
  obtain ⟨x363,e363,h3⟩:=aP h3
  refine gX 40 (aB x363) rfl (congrArg aB e363) ?_
  refine gX 41 (aB x363) rfl (congrArg aB e363) ?_
  cases x363
  replace h3:=cf h3
  refine tr aA 1 (.mk ?_)
  obtain ⟨x364,e364,h3⟩:=bJ h3
  refine sY (gH rfl rfl (.cons rfl .nil) lM (.cons (bO.agg (.cons (.refl _) (.cons (.refl _) (.cons (.refl _) (.cons (.refl _) (.cons (.refl _) (.cons (.refl _) (.cons (.refl _) (.cons (.refl _) (.cons (.nil _) .nil)))))))))) .nil) (lS e364)) ?_
  refine nb aA h3 λx365 h3=>?_
  refine tr aA 2 (.mk ?_)
  exact lf h3 () aW
  replace h3:=ct h3
  refine tr aA 5 (.mk ?_)
  exact lf h3 () aW
  rintro y5_1 _ h2
  cases y5_1
  replace h2:=cf h2
  refine tc aA 5 (.mk ?_)
  refine sY (dQ (ps:=[(0,_)]) (rows:=[[int x13,int 0,int 0,int 0,int 0,int x352,int x356,int x360,.sc (.slice none 0 0)]]) rfl Tryz.underlying27 iC (.cons rfl .nil) (by kernel_rfl) rfl rfl rfl) ?_
  obtain ⟨x366,e366,h2⟩:=aP h2
  obtain ⟨p367,h2⟩:=cO h2
  refine bL rfl rfl rfl (iB (g:=aF.av) (l:=y2_4) (m:=[(⟨x13,0,0,0,0,x352,x356,x360,[]⟩:aF)]) .any rfl Tryz.underlying27 iC mZ rfl rfl rfl rfl rfl rfl rfl rfl rfl rfl (Eq.symm rfl) (fV.list (.cons (.cons (.refl _) (.cons (.refl _) (.cons (.refl _) (.cons (.refl _) (.cons (.refl _) (.cons (.refl _) (.cons (.refl _) (.cons (.refl _) (.cons (.nil _) .nil))))))))) .nil)) (λ_=>rfl) e366 p367) ?_;rintro _ _ ⟨v368,-,rfl,rfl⟩
  refine tr aA 3 (.mk ?_)
  exact jW h2 v368 aW
  replace h2:=ct h2
  refine tc aA 6 (.mk ?_)
  obtain ⟨c369,hX,hj⟩:=gD h2;subst hj;replace h1:=hX.trans (fZ h1)
  obtain ⟨c370,hX,hj⟩:=gD h1;subst hj;replace h0:=hX.trans (fZ h0)
  obtain rfl:=bE h0
  refine wR hret (rT (rT .nil)) ?_
  exact bO.aS (.cons (.nil _) (.cons (.refl _) .nil))
  replace h2:=ct h2
  refine nD [0,0,2,7,15] (λi=>bif Nat.beq i 1 then ([2]) else bif Nat.beq i 2 then ([2]) else []) (λi=>[2]) 4 [0,1,2,3] mixed (by kernel_rfl) rfl rfl rfl rfl rfl rfl rfl rfl rfl rfl rfl rfl rfl Tryz.underlying9 ?_
  refine eP (λH hH=>gH rfl rfl .nil mP (bO.refl _) nK) ?_
  refine eF lW ?_
  refine eL bW ?_
  refine nO 23 (int 1) rfl (congrArg int (of_decide_eq_true e17)) ?_
  refine lF rfl rfl rfl rfl (λH hH=>mR rfl Tryz.underlying88 mJ rfl rfl (by decide) rfl) ?_
  refine ⟨_,rfl,rfl,λb371=>?_⟩
  refine tc aA 13 (.mk ?_)
  refine sY (aH (y:=aB false) (aI rfl rfl rfl) (congrArg aB (by decide))) ?_
  refine tr aA 4 (.mk ?_)
  obtain ⟨j372,h3,h2⟩:=bJ h2
  refine bL (Out:=λy H'=>(∃ (a:Unit) (k:Unit),a=j372/\y=.pt 2 v15 0 1/\H'=hk [(1,⟨131,2,true,true,w1_1,[[str x14.1,aB x14.2]]⟩),(2,⟨29,9,true,true,v15,[[int x13,int 0,int 0,int 0,int 0,int 0,int 0,int 0,.sc (.slice none 0 0)]]⟩),(4,⟨29,9,true,true,w2_1,y2_4.map aF.av⟩)])) rfl rfl rfl (aN rfl rfl (.cons rfl (.cons rfl .nil)) eG ?_) ?_
  refine dD (c:=_) Tryz.func40 rfl rfl ?_;intro Q hret hnorm
  refine tc aA 12 (.mk ?_)
  refine sY (aH (y:=aB true) (aI rfl rfl rfl) (congrArg aB (by decide))) ?_
  refine tr aA 10 (.mk ?_)
  obtain rfl:=bE h3
  refine dM (hret _ _ (hk [(1,⟨131,2,true,true,w1_1,[[str x14.1,aB x14.2]]⟩),(2,⟨29,9,true,true,v15,[[int x13,int 0,int 0,int 0,int 0,int 0,int 0,int 0,.sc (.slice none 0 0)]]⟩),(4,⟨29,9,true,true,w2_1,y2_4.map aF.av⟩)]) (.tmp rfl .nil) (HK.le ⟨rfl,rfl,rfl,trivial⟩) ?_)
  exact ⟨(),(),rfl,rfl,rfl⟩
  rintro y _ ⟨_,_,rfl,hc,rfl⟩
  subst hc
  refine tr aA 1 (.mk ?_)
  obtain ⟨p373,h2⟩:=cO h2
  obtain ⟨x374,e374,h2⟩:=aP h2
  obtain ⟨x375,e375,h2⟩:=aP h2
  refine bL rfl rfl rfl (aN rfl rfl (.cons rfl .nil) fP (PC.mono (fH (s:=x14) (id:=1) (aD:=w1_1) rfl p373) (R':=λy H'=>y=int x374/\H'=upd _ 1 (some (dI 131 w1_1 x375))) (λy H' h=>⟨h.1.trans (congrArg int e374),h.2.trans (d9 e375)⟩))) ?_;rintro _ _ ⟨rfl,rfl⟩
  refine tr aA 1 (.mk ?_)
  refine sS ⟨29,9,true,true,v15,[[int x13,int x374,int 0,int 0,int 0,int 0,int 0,int 0,.sc (.slice none 0 0)]]⟩ bW ?_
  refine tr aA 15 (.mk ?_)
  refine sY (aH (y:=aB false) (aI rfl rfl rfl) (congrArg aB (by decide))) ?_
  refine tr aA 4 (.mk ?_)
  obtain ⟨j376,h3,h2⟩:=bJ h2
  refine bL (Out:=λy H'=>(∃ (a:Unit) (k:Unit),a=j376/\y=.pt 2 v15 0 2/\H'=hk [(1,⟨131,2,true,true,w1_1,[[str x375.1,aB x375.2]]⟩),(2,⟨29,9,true,true,v15,[[int x13,int x374,int 0,int 0,int 0,int 0,int 0,int 0,.sc (.slice none 0 0)]]⟩),(4,⟨29,9,true,true,w2_1,y2_4.map aF.av⟩)])) rfl rfl rfl (aN rfl rfl (.cons rfl (.cons rfl .nil)) eG ?_) ?_
  refine dD (c:=_) Tryz.func40 rfl rfl ?_;intro Q hret hnorm
  refine tc aA 12 (.mk ?_)
  refine sY (aH (y:=aB false) (aI rfl rfl rfl) (congrArg aB (by decide))) ?_
  refine tr aA 5 (.mk ?_)
  refine sY (aH (y:=aB true) (aI rfl rfl rfl) (congrArg aB (by decide))) ?_
  refine tr aA 10 (.mk ?_)
  obtain rfl:=bE h3
  refine dM (hret _ _ (hk [(1,⟨131,2,true,true,w1_1,[[str x375.1,aB x375.2]]⟩),(2,⟨29,9,true,true,v15,[[int x13,int x374,int 0,int 0,int 0,int 0,int 0,int 0,.sc (.slice none 0 0)]]⟩),(4,⟨29,9,true,true,w2_1,y2_4.map aF.av⟩)]) (.tmp rfl .nil) (HK.le ⟨rfl,rfl,rfl,trivial⟩) ?_)
  exact ⟨(),(),rfl,rfl,rfl⟩
  rintro y _ ⟨_,_,rfl,hc,rfl⟩
  subst hc
  refine tr aA 1 (.mk ?_)
  obtain ⟨p377,h2⟩:=cO h2
  obtain ⟨x378,e378,h2⟩:=aP h2
  obtain ⟨x379,e379,h2⟩:=aP h2
  refine bL rfl rfl rfl (aN rfl rfl (.cons rfl .nil) fP (PC.mono (fH (s:=x375) (id:=1) (aD:=w1_1) rfl p377) (R':=λy H'=>y=int x378/\H'=upd _ 1 (some (dI 131 w1_1 x379))) (λy H' h=>⟨h.1.trans (congrArg int e378),h.2.trans (d9 e379)⟩))) ?_;rintro _ _ ⟨rfl,rfl⟩
  refine tr aA 1 (.mk ?_)
  refine sS ⟨29,9,true,true,v15,[[int x13,int x374,int x378,int 0,int 0,int 0,int 0,int 0,.sc (.slice none 0 0)]]⟩ bW ?_
  refine tr aA 15 (.mk ?_)
  refine sY (aH (y:=aB false) (aI rfl rfl rfl) (congrArg aB (by decide))) ?_
  refine tr aA 4 (.mk ?_)
  obtain ⟨j380,h3,h2⟩:=bJ h2
  refine bL (Out:=λy H'=>(∃ (a:Unit) (k:Unit),a=j380/\y=.pt 2 v15 0 3/\H'=hk [(1,⟨131,2,true,true,w1_1,[[str x379.1,aB x379.2]]⟩),(2,⟨29,9,true,true,v15,[[int x13,int x374,int x378,int 0,int 0,int 0,int 0,int 0,.sc (.slice none 0 0)]]⟩),(4,⟨29,9,true,true,w2_1,y2_4.map aF.av⟩)])) rfl rfl rfl (aN rfl rfl (.cons rfl (.cons rfl .nil)) eG ?_) ?_
  refine dD (c:=_) Tryz.func40 rfl rfl ?_;intro Q hret hnorm
  refine tc aA 12 (.mk ?_)
  refine sY (aH (y:=aB false) (aI rfl rfl rfl) (congrArg aB (by decide))) ?_
  refine tr aA 5 (.mk ?_)
  refine sY (aH (y:=aB false) (aI rfl rfl rfl) (congrArg aB (by decide))) ?_
  refine tr aA 5 (.mk ?_)
  refine sY (aH (y:=aB true) (aI rfl rfl rfl) (congrArg aB (by decide))) ?_
  refine tr aA 10 (.mk ?_)
  obtain rfl:=bE h3
  refine dM (hret _ _ (hk [(1,⟨131,2,true,true,w1_1,[[str x379.1,aB x379.2]]⟩),(2,⟨29,9,true,true,v15,[[int x13,int x374,int x378,int 0,int 0,int 0,int 0,int 0,.sc (.slice none 0 0)]]⟩),(4,⟨29,9,true,true,w2_1,y2_4.map aF.av⟩)]) (.tmp rfl .nil) (HK.le ⟨rfl,rfl,rfl,trivial⟩) ?_)
  exact ⟨(),(),rfl,rfl,rfl⟩
  rintro y _ ⟨_,_,rfl,hc,rfl⟩
  subst hc
  refine tr aA 1 (.mk ?_)
  obtain ⟨p381,h2⟩:=cO h2
  obtain ⟨x382,e382,h2⟩:=aP h2
  obtain ⟨x383,e383,h2⟩:=aP h2
  refine bL rfl rfl rfl (aN rfl rfl (.cons rfl .nil) fP (PC.mono (fH (s:=x379) (id:=1) (aD:=w1_1) rfl p381) (R':=λy H'=>y=int x382/\H'=upd _ 1 (some (dI 131 w1_1 x383))) (λy H' h=>⟨h.1.trans (congrArg int e382),h.2.trans (d9 e383)⟩))) ?_;rintro _ _ ⟨rfl,rfl⟩
  refine tr aA 1 (.mk ?_)
  refine sS ⟨29,9,true,true,v15,[[int x13,int x374,int x378,int x382,int 0,int 0,int 0,int 0,.sc (.slice none 0 0)]]⟩ bW ?_
  refine tr aA 15 (.mk ?_)
  refine sY (aH (y:=aB false) (aI rfl rfl rfl) (congrArg aB (by decide))) ?_
  refine tr aA 4 (.mk ?_)
  obtain ⟨j384,h3,h2⟩:=bJ h2
  refine bL (Out:=λy H'=>(∃ (a:Unit) (k:Unit),a=j384/\y=.pt 2 v15 0 5/\H'=hk [(1,⟨131,2,true,true,w1_1,[[str x383.1,aB x383.2]]⟩),(2,⟨29,9,true,true,v15,[[int x13,int x374,int x378,int x382,int 0,int 0,int 0,int 0,.sc (.slice none 0 0)]]⟩),(4,⟨29,9,true,true,w2_1,y2_4.map aF.av⟩)])) rfl rfl rfl (aN rfl rfl (.cons rfl (.cons rfl .nil)) eG ?_) ?_
  refine dD (c:=_) Tryz.func40 rfl rfl ?_;intro Q hret hnorm
  refine tc aA 12 (.mk ?_)
  refine sY (aH (y:=aB false) (aI rfl rfl rfl) (congrArg aB (by decide))) ?_
  refine tr aA 5 (.mk ?_)
  refine sY (aH (y:=aB false) (aI rfl rfl rfl) (congrArg aB (by decide))) ?_
  refine tr aA 5 (.mk ?_)
  refine sY (aH (y:=aB false) (aI rfl rfl rfl) (congrArg aB (by decide))) ?_
  refine tr aA 5 (.mk ?_)
  refine sY (aH (y:=aB false) (aI rfl rfl rfl) (congrArg aB (by decide))) ?_
  refine tr aA 5 (.mk ?_)
  refine sY (aH (y:=aB true) (aI rfl rfl rfl) (congrArg aB (by decide))) ?_
  refine tr aA 10 (.mk ?_)
  obtain rfl:=bE h3
  refine dM (hret _ _ (hk [(1,⟨131,2,true,true,w1_1,[[str x383.1,aB x383.2]]⟩),(2,⟨29,9,true,true,v15,[[int x13,int x374,int x378,int x382,int 0,int 0,int 0,int 0,.sc (.slice none 0 0)]]⟩),(4,⟨29,9,true,true,w2_1,y2_4.map aF.av⟩)]) (.tmp rfl .nil) (HK.le ⟨rfl,rfl,rfl,trivial⟩) ?_)
  exact ⟨(),(),rfl,rfl,rfl⟩
  rintro y _ ⟨_,_,rfl,hc,rfl⟩
  subst hc
  refine tr aA 1 (.mk ?_)
  obtain ⟨p385,h2⟩:=cO h2
  obtain ⟨x386,e386,h2⟩:=aP h2
  obtain ⟨x387,e387,h2⟩:=aP h2
  refine bL rfl rfl rfl (aN rfl rfl (.cons rfl .nil) fP (PC.mono (fH (s:=x383) (id:=1) (aD:=w1_1) rfl p385) (R':=λy H'=>y=int x386/\H'=upd _ 1 (some (dI 131 w1_1 x387))) (λy H' h=>⟨h.1.trans (congrArg int e386),h.2.trans (d9 e387)⟩))) ?_;rintro _ _ ⟨rfl,rfl⟩
  refine tr aA 1 (.mk ?_)
  refine sS ⟨29,9,true,true,v15,[[int x13,int x374,int x378,int x382,int 0,int x386,int 0,int 0,.sc (.slice none 0 0)]]⟩ bW ?_
  refine tr aA 15 (.mk ?_)
  refine sY (aH (y:=aB false) (aI rfl rfl rfl) (congrArg aB (by decide))) ?_
  refine tr aA 4 (.mk ?_)
  obtain ⟨j388,h3,h2⟩:=bJ h2
  refine bL (Out:=λy H'=>(∃ (a:Unit) (k:Unit),a=j388/\y=.pt 2 v15 0 6/\H'=hk [(1,⟨131,2,true,true,w1_1,[[str x387.1,aB x387.2]]⟩),(2,⟨29,9,true,true,v15,[[int x13,int x374,int x378,int x382,int 0,int x386,int 0,int 0,.sc (.slice none 0 0)]]⟩),(4,⟨29,9,true,true,w2_1,y2_4.map aF.av⟩)])) rfl rfl rfl (aN rfl rfl (.cons rfl (.cons rfl .nil)) eG ?_) ?_
  refine dD (c:=_) Tryz.func40 rfl rfl ?_;intro Q hret hnorm
  refine tc aA 12 (.mk ?_)
  refine sY (aH (y:=aB false) (aI rfl rfl rfl) (congrArg aB (by decide))) ?_
  refine tr aA 5 (.mk ?_)
  refine sY (aH (y:=aB false) (aI rfl rfl rfl) (congrArg aB (by decide))) ?_
  refine tr aA 5 (.mk ?_)
  refine sY (aH (y:=aB false) (aI rfl rfl rfl) (congrArg aB (by decide))) ?_
  refine tr aA 5 (.mk ?_)
  refine sY (aH (y:=aB false) (aI rfl rfl rfl) (congrArg aB (by decide))) ?_
  refine tr aA 5 (.mk ?_)
  refine sY (aH (y:=aB false) (aI rfl rfl rfl) (congrArg aB (by decide))) ?_
  refine tr aA 5 (.mk ?_)
  refine sY (aH (y:=aB true) (aI rfl rfl rfl) (congrArg aB (by decide))) ?_
  refine tr aA 10 (.mk ?_)
  obtain rfl:=bE h3
  refine dM (hret _ _ (hk [(1,⟨131,2,true,true,w1_1,[[str x387.1,aB x387.2]]⟩),(2,⟨29,9,true,true,v15,[[int x13,int x374,int x378,int x382,int 0,int x386,int 0,int 0,.sc (.slice none 0 0)]]⟩),(4,⟨29,9,true,true,w2_1,y2_4.map aF.av⟩)]) (.tmp rfl .nil) (HK.le ⟨rfl,rfl,rfl,trivial⟩) ?_)
  exact ⟨(),(),rfl,rfl,rfl⟩
  rintro y _ ⟨_,_,rfl,hc,rfl⟩
  subst hc
  refine tr aA 1 (.mk ?_)
  obtain ⟨p389,h2⟩:=cO h2
  obtain ⟨x390,e390,h2⟩:=aP h2
  obtain ⟨x391,e391,h2⟩:=aP h2
  refine bL rfl rfl rfl (aN rfl rfl (.cons rfl .nil) fP (PC.mono (fH (s:=x387) (id:=1) (aD:=w1_1) rfl p389) (R':=λy H'=>y=int x390/\H'=upd _ 1 (some (dI 131 w1_1 x391))) (λy H' h=>⟨h.1.trans (congrArg int e390),h.2.trans (d9 e391)⟩))) ?_;rintro _ _ ⟨rfl,rfl⟩
  refine tr aA 1 (.mk ?_)
  refine sS ⟨29,9,true,true,v15,[[int x13,int x374,int x378,int x382,int 0,int x386,int x390,int 0,.sc (.slice none 0 0)]]⟩ bW ?_
  refine tr aA 8 (.mk ?_)
  refine jn h2 [2,3,4,5,6,15,16] [1,2,4] (λ(a:Bool) (k:Unit)=>[(45,aB a)]) (λa k=>[]) ⟨λj392 h3=>?_,?_⟩
  refine tc aA 2 (.mk ?_)
  refine sY (lV rfl rfl (.cons rfl .nil) mM (mF (s:=x391) (id:=1) (aD:=w1_1) rfl) (.sc _)) ?_
  refine tr aA 1 (.mk ?_)
  obtain ⟨x393,e393,h3⟩:=aP h3
  refine gX 40 (aB x393) rfl (congrArg aB e393) ?_
  refine gX 41 (aB x393) rfl (congrArg aB e393) ?_
  cases x393
  replace h3:=cf h3
  refine tr aA 1 (.mk ?_)
  obtain ⟨x394,e394,h3⟩:=bJ h3
  refine sY (gH rfl rfl (.cons rfl .nil) lM (.cons (bO.agg (.cons (.refl _) (.cons (.refl _) (.cons (.refl _) (.cons (.refl _) (.cons (.refl _) (.cons (.refl _) (.cons (.refl _) (.cons (.refl _) (.cons (.nil _) .nil)))))))))) .nil) (lS e394)) ?_
  refine nb aA h3 λx395 h3=>?_
  refine tr aA 2 (.mk ?_)
  exact lf h3 () aW
  replace h3:=ct h3
  refine tr aA 5 (.mk ?_)
  exact lf h3 () aW
  rintro y5_1 _ h2
  cases y5_1
  replace h2:=cf h2
  refine tc aA 5 (.mk ?_)
  refine sY (dQ (ps:=[(0,_)]) (rows:=[[int x13,int x374,int x378,int x382,int 0,int x386,int x390,int 0,.sc (.slice none 0 0)]]) rfl Tryz.underlying27 iC (.cons rfl .nil) (by kernel_rfl) rfl rfl rfl) ?_
  obtain ⟨x396,e396,h2⟩:=aP h2
  obtain ⟨p397,h2⟩:=cO h2
  refine bL rfl rfl rfl (iB (g:=aF.av) (l:=y2_4) (m:=[(⟨x13,x374,x378,x382,0,x386,x390,0,[]⟩:aF)]) .any rfl Tryz.underlying27 iC mZ rfl rfl rfl rfl rfl rfl rfl rfl rfl rfl (Eq.symm rfl) (fV.list (.cons (.cons (.refl _) (.cons (.refl _) (.cons (.refl _) (.cons (.refl _) (.cons (.refl _) (.cons (.refl _) (.cons (.refl _) (.cons (.refl _) (.cons (.nil _) .nil))))))))) .nil)) (λ_=>rfl) e396 p397) ?_;rintro _ _ ⟨v398,-,rfl,rfl⟩
  refine tr aA 3 (.mk ?_)
  exact jW h2 v398 aW
  replace h2:=ct h2
  refine tc aA 6 (.mk ?_)
  obtain ⟨c399,hX,hj⟩:=gD h2;subst hj;replace h1:=hX.trans (fZ h1)
  obtain ⟨c400,hX,hj⟩:=gD h1;subst hj;replace h0:=hX.trans (fZ h0)
  obtain rfl:=bE h0
  refine wR hret (rT (rT .nil)) ?_
  exact bO.aS (.cons (.nil _) (.cons (.refl _) .nil))
  replace h2:=ct h2
  refine nD [0,0,2,7,15] (λi=>bif Nat.beq i 1 then ([2]) else bif Nat.beq i 2 then ([2]) else []) (λi=>[2]) 4 [0,1,2,3] mixed (by kernel_rfl) rfl rfl rfl rfl rfl rfl rfl rfl rfl rfl rfl rfl rfl Tryz.underlying9 ?_
  refine eP (λH hH=>gH rfl rfl .nil mP (bO.refl _) nK) ?_
  refine eF lW ?_
  refine eL bW ?_
  refine nO 23 (int 0) rfl (congrArg int (of_decide_eq_true e16)) ?_
  refine lF rfl rfl rfl rfl (λH hH=>mR rfl Tryz.underlying88 mJ rfl rfl (by decide) rfl) ?_
  refine ⟨_,rfl,rfl,λb401=>?_⟩
  refine tc aA 6 (.mk ?_)
  refine jn h2 [2,3,4,5,6,15,16] [1,2,4] (λ(a:Bool) (k:Unit)=>[(45,aB a)]) (λa k=>[]) ⟨λj402 h3=>?_,?_⟩
  refine tc aA 2 (.mk ?_)
  refine sY (lV rfl rfl (.cons rfl .nil) mM (mF (s:=x14) (id:=1) (aD:=w1_1) rfl) (.sc _)) ?_
  refine tr aA 1 (.mk ?_)
  obtain ⟨x403,e403,h3⟩:=aP h3
  refine gX 40 (aB x403) rfl (congrArg aB e403) ?_
  refine gX 41 (aB x403) rfl (congrArg aB e403) ?_
  cases x403
  replace h3:=cf h3
  refine tr aA 1 (.mk ?_)
  obtain ⟨x404,e404,h3⟩:=bJ h3
  refine sY (gH rfl rfl (.cons rfl .nil) lM (.cons (bO.agg (.cons (.refl _) (.cons (.refl _) (.cons (.refl _) (.cons (.refl _) (.cons (.refl _) (.cons (.refl _) (.cons (.refl _) (.cons (.refl _) (.cons (.nil _) .nil)))))))))) .nil) (lS e404)) ?_
  refine nb aA h3 λx405 h3=>?_
  refine tr aA 2 (.mk ?_)
  exact lf h3 () aW
  replace h3:=ct h3
  refine tr aA 5 (.mk ?_)
  exact lf h3 () aW
  rintro y5_1 _ h2
  cases y5_1
  replace h2:=cf h2
  refine tc aA 5 (.mk ?_)
  refine sY (dQ (ps:=[(0,_)]) (rows:=[[int x13,int 0,int 0,int 0,int 0,int 0,int 0,int 0,.sc (.slice none 0 0)]]) rfl Tryz.underlying27 iC (.cons rfl .nil) (by kernel_rfl) rfl rfl rfl) ?_
  obtain ⟨x406,e406,h2⟩:=aP h2
  obtain ⟨p407,h2⟩:=cO h2
  refine bL rfl rfl rfl (iB (g:=aF.av) (l:=y2_4) (m:=[(⟨x13,0,0,0,0,0,0,0,[]⟩:aF)]) .any rfl Tryz.underlying27 iC mZ rfl rfl rfl rfl rfl rfl rfl rfl rfl rfl (Eq.symm rfl) (fV.list (.cons (.cons (.refl _) (.cons (.refl _) (.cons (.refl _) (.cons (.refl _) (.cons (.refl _) (.cons (.refl _) (.cons (.refl _) (.cons (.refl _) (.cons (.nil _) .nil))))))))) .nil)) (λ_=>rfl) e406 p407) ?_;rintro _ _ ⟨v408,-,rfl,rfl⟩
  refine tr aA 3 (.mk ?_)
  exact jW h2 v408 aW
  replace h2:=ct h2
  refine tc aA 6 (.mk ?_)
  obtain ⟨c409,hX,hj⟩:=gD h2;subst hj;replace h1:=hX.trans (fZ h1)
  obtain ⟨c410,hX,hj⟩:=gD h1;subst hj;replace h0:=hX.trans (fZ h0)
  obtain rfl:=bE h0
  refine wR hret (rT (rT .nil)) ?_
  exact bO.aS (.cons (.nil _) (.cons (.refl _) .nil))
  rintro ⟨y6_2,y6_3⟩ w6_1 h1
  replace h1:=pG h1
  refine tc aA 1 (.mk ?_)
  refine ni aA h1 λx411 h1=>?_
  refine tr aA 2 (.mk ?_)
  exact bk (x411,y6_2,y6_3) w6_1 h1 aW
  rintro ⟨y7_2,y7_3⟩ w7_1 h0
  replace h0:=pG h0
  refine tc aA 2 (.mk ?_)
  refine jn h0 [2,3,5] [4] (λ(a:Bool) (k:Unit)=>[(57,aB a)]) (λa k=>[]) ⟨λj412 h1=>?_,?_⟩
  refine tc aA 2 (.mk ?_)
  refine sY (lV rfl rfl (.cons rfl .nil) mM (mF (s:=((y7_2.s,y7_2.bad):RS)) (id:=1) (aD:=w1_1) rfl) (.sc _)) ?_
  refine tr aA 1 (.mk ?_)
  obtain ⟨x413,e413,h1⟩:=aP h1
  refine gX 52 (aB x413) rfl (congrArg aB e413) ?_
  refine gX 53 (aB x413) rfl (congrArg aB e413) ?_
  cases x413
  replace h1:=cf h1
  refine tr aA 1 (.mk ?_)
  refine sY (lV rfl rfl (.cons rfl .nil) W9 (PR (s:=((y7_2.s,y7_2.bad):RS)) (id:=1) (aD:=w1_1) rfl) (.sc _)) ?_
  refine nb aA h1 λx414 h1=>?_
  refine tr aA 2 (.mk ?_)
  exact lf h1 () aW
  replace h1:=ct h1
  refine tr aA 5 (.mk ?_)
  exact lf h1 () aW
  rintro y8_1 _ h0
  cases y8_1
  replace h0:=cf h0
  refine tc aA 8 (.mk ?_)
  obtain rfl:=bE h0
  refine wR hret (rT (rT .nil)) ?_
  exact bO.aS (.cons (gJ rfl rfl rfl rfl rfl (Eq.symm rfl)) (.cons (.refl _) .nil))
  replace h0:=ct h0
  refine tc aA 6 (.mk ?_)
  obtain rfl:=bE h0
  refine wR hret (rT (rT .nil)) ?_
  exact bO.aS (.cons (.nil _) (.cons (.refl _) .nil))
end
end Go.Pv
