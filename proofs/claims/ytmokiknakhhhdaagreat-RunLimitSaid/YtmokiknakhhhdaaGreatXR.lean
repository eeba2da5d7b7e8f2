import Derived.Test.YtmokiknakhhhdaaGreatPvAG
import Derived.Test.YtmokiknakhhhdaaGreatPvAO
import Derived.Test.YtmokiknakhhhdaaGreatT85
import Derived.Test.YtmokiknakhhhdaaGreatT86
import Derived.Test.YtmokiknakhhhdaaGreatPvAH
import Derived.Test.YtmokiknakhhhdaaGreatPvAI
import Derived.Test.YtmokiknakhhhdaaGreatPvAJ
import Derived.Test.YtmokiknakhhhdaaGreatPvAM
import Derived.Test.YtmokiknakhhhdaaGreatProg
set_option linter.unusedVariables false
set_option linter.unusedSimpArgs false
namespace Go.Pv
open Go.Proofs
set_option maxRecDepth 100000
set_option maxHeartbeats 4000000
structure eU where
  iD:Int
  kV:Int
  dH:List Int
  Methods:List (List Int)
  jO:List (List Int)
  deriving DecidableEq,Inhabited
@[reducible] def eU.av (x:eU):List AV:=[int x.iD,int x.kV,aG 1 fI x.dH,aG 1 (fL 1 fI) x.Methods,aG 1 (fL 1 fI) x.jO]
theorem eU.eH (x:eU):∀ a∈x.av,PV a:=oJ
structure cZ where
  s:List UInt8
  bad:Bool
  deriving DecidableEq,Inhabited
@[reducible] def cZ.av (x:cZ):List AV:=[str x.s,aB x.bad]
theorem cZ.eH (x:cZ):∀ a∈x.av,PV a:=oJ
structure aF where
  Kind:Int
  E:Int
  Item:Int
  Loc:Int
  To:Int
  aM:Int
  aQ:Int
  Ref:Int
  bT:List Int
  deriving DecidableEq,Inhabited
@[reducible] def aF.av (x:aF):List AV:=[int x.Kind,int x.E,int x.Item,int x.Loc,int x.To,int x.aM,int x.aQ,int x.Ref,aG 1 fI x.bT]
theorem aF.eH (x:aF):∀ a∈x.av,PV a:=oJ
structure oW where
  a0:List UInt8
  a1:List UInt8
  a2:List UInt8
  a3:List UInt8
  a4:List UInt8
  a5:List UInt8
  a6:List UInt8
  a7:List UInt8
  a8:List UInt8
  a9:List UInt8
  tK:List UInt8
  tN:List UInt8
  a12:List UInt8
  tH:List UInt8
  K9:List UInt8
  KZ:List UInt8
  a16:List UInt8
  deriving DecidableEq,Inhabited
@[reducible] def oW.av (x:oW):List AV:=[str x.a0,str x.a1,str x.a2,str x.a3,str x.a4,str x.a5,str x.a6,str x.a7,str x.a8,str x.a9,str x.tK,str x.tN,str x.a12,str x.tH,str x.K9,str x.KZ,str x.a16]
theorem oW.eH (x:oW):∀ a∈x.av,PV a:=oJ
structure dB where
  aM:Int
  Value:Int
  gG:Int
  deriving DecidableEq,Inhabited
@[reducible] def dB.av (x:dB):List AV:=[int x.aM,int x.Value,int x.gG]
theorem dB.eH (x:dB):∀ a∈x.av,PV a:=oJ
structure uJ where
  a0:Int
  a1:Int
  a2:Int
  deriving DecidableEq,Inhabited
@[reducible] def uJ.av (x:uJ):List AV:=[int x.a0,int x.a1,int x.a2]
theorem uJ.eH (x:uJ):∀ a∈x.av,PV a:=oJ
structure dK where
  kJ:List dB
  gK:uJ
  deriving DecidableEq,Inhabited
@[reducible] def dK.av (x:dK):List AV:=[aG 3 dB.av x.kJ,int x.gK.a0,int x.gK.a1,int x.gK.a2]
theorem dK.eH (x:dK):∀ a∈x.av,PV a:=oJ
structure gI where
  Open:Int
  kD:Int
  jP:Int
  jL:Int
  jG:Int
  jA:Int
  iY:Int
  iU:Int
  iP:Int
  iK:Int
  iI:Int
  deriving DecidableEq,Inhabited
@[reducible] def gI.av (x:gI):List AV:=[int x.Open,int x.kD,int x.jP,int x.jL,int x.jG,int x.jA,int x.iY,int x.iU,int x.iP,int x.iK,int x.iI]
theorem gI.eH (x:gI):∀ a∈x.av,PV a:=oJ
structure bC where
  l5:Int
  Closed:Bool
  iF:List dK
  jJ:List Int
  gZ:List gI
  gW:List Int
  Down:List Int
  iX:List bC
  deriving Inhabited
mutual
def bC.av:bC->List AV
  | ⟨l5,Closed,iF,jJ,gZ,gW,Down,iX⟩=>[int l5,aB Closed,aG 4 dK.av iF,aG 1 fI jJ,aG 11 gI.av gZ,aG 1 fI gW,aG 1 fI Down,.list 8 (bC.uU iX)]
def bC.uU:List bC->List (List AV)
  | []=>[]
  | x :: r=>bC.av x :: bC.uU r
end
theorem bC.aD7 (l:List bC):bC.uU l=l.map bC.av:=by
  induction l with
  | nil=>unfold bC.uU;rfl
  | cons x r ih=>unfold bC.uU;rw [ih];rfl
@[reducible] def gE (x:bC):List AV:=[int x.l5,aB x.Closed,aG 4 dK.av x.iF,aG 1 fI x.jJ,aG 11 gI.av x.gZ,aG 1 fI x.gW,aG 1 fI x.Down,aG 8 bC.av x.iX]
theorem bC.gU (x:bC):bC.av x=[int x.l5,aB x.Closed,aG 4 dK.av x.iF,aG 1 fI x.jJ,aG 11 gI.av x.gZ,aG 1 fI x.gW,aG 1 fI x.Down,aG 8 bC.av x.iX]:=by
  cases x;unfold bC.av;rw [bC.aD7]
theorem bC.one (x:bC):iQ (bC.av x)=true:=by rw [bC.gU];rfl
mutual
theorem bC.eH:∀ (x:bC),∀ a∈x.av,PV a
  | ⟨l5,Closed,iF,jJ,gZ,gW,Down,iX⟩=>by
    intro a ha;unfold bC.av at ha;simp only [List.mem_cons,List.not_mem_nil,or_false] at ha
    rcases ha with rfl | rfl | rfl | rfl | rfl | rfl | rfl | rfl
    · exact qI l5
    · exact qD Closed
    · exact (rG dK.eH) iF
    · exact (rG yD) jJ
    · exact (rG gI.eH) gZ
    · exact (rG yD) gW
    · exact (rG yD) Down
    · exact .list (λr hr=>bC.SS iX r hr)
theorem bC.SS:∀ (l:List bC),∀ r∈bC.uU l,∀ a∈r,PV a
  | []=>by intro r hr;unfold bC.uU at hr;cases hr
  | x :: l=>by
    intro r hr;unfold bC.uU at hr
    rcases List.mem_cons.1 hr with e | h
    · rw [e];exact bC.eH x
    · exact bC.SS l r h
end
structure iJ where
  uD:Int
  Item:Int
  Loc:Int
  aM:Int
  Value:Int
  Open:Int
  qV:Int
  lZ:Int
  deriving DecidableEq,Inhabited
@[reducible] def iJ.av (x:iJ):List AV:=[int x.uD,int x.Item,int x.Loc,int x.aM,int x.Value,int x.Open,int x.qV,int x.lZ]
theorem iJ.eH (x:iJ):∀ a∈x.av,PV a:=oJ
structure mG where
  uD:Int
  Item:Int
  Loc:Int
  aM:Int
  lZ:Int
  sM:Int
  gG:Int
  qU:Int
  rX:Bool
  deriving DecidableEq,Inhabited
@[reducible] def mG.av (x:mG):List AV:=[int x.uD,int x.Item,int x.Loc,int x.aM,int x.lZ,int x.sM,int x.gG,int x.qU,aB x.rX]
theorem mG.eH (x:mG):∀ a∈x.av,PV a:=oJ
structure mO where
  D4:Int
  To:Int
  Item:Int
  aM:Int
  Value:Int
  gG:Int
  deriving DecidableEq,Inhabited
@[reducible] def mO.av (x:mO):List AV:=[int x.D4,int x.To,int x.Item,int x.aM,int x.Value,int x.gG]
theorem mO.eH (x:mO):∀ a∈x.av,PV a:=oJ
structure bD where
  dR:eU
  dX:List bC
  iO:List iJ
  jH:List mG
  jQ:List mO
  Done:Int
  deriving Inhabited
@[reducible] def bD.av (x:bD):List AV:=[int x.dR.iD,int x.dR.kV,aG 1 fI x.dR.dH,aG 1 (fL 1 fI) x.dR.Methods,aG 1 (fL 1 fI) x.dR.jO,aG 8 bC.av x.dX,aG 8 iJ.av x.iO,aG 9 mG.av x.jH,aG 6 mO.av x.jQ,int x.Done]
theorem bD.eH (x:bD):∀ a∈x.av,PV a:=oJ
structure yJ where
  deriving DecidableEq,Inhabited
@[reducible] def yJ.av (x:yJ):List AV:=[]
theorem yJ.eH (x:yJ):∀ a∈x.av,PV a:=oJ
structure zA where
  deriving DecidableEq,Inhabited
@[reducible] def zA.av (x:zA):List AV:=[]
theorem zA.eH (x:zA):∀ a∈x.av,PV a:=oJ
structure bY where
  uK:Int
  aQ:Int
  deriving DecidableEq,Inhabited
@[reducible] def bY.av (x:bY):List AV:=[int x.uK,int x.aQ]
theorem bY.eH (x:bY):∀ a∈x.av,PV a:=oJ
theorem CG:dY Tryz.prog 1=some (1,false):=by kernel_rfl
theorem vD:dY Tryz.prog 23=some (1,false):=by kernel_rfl
theorem yT:dY Tryz.prog 24=some (1,false):=by kernel_rfl
theorem zU:dY Tryz.prog 26=some (5,true):=by kernel_rfl
theorem fD:dY Tryz.prog 29=some (9,true):=by kernel_rfl
theorem aLM:dY Tryz.prog 30=some (1,false):=by kernel_rfl
theorem uO:dY Tryz.prog 35=some (10,true):=by kernel_rfl
theorem H9:dY Tryz.prog 36=some (1,false):=by kernel_rfl
theorem JE:dY Tryz.prog 44=some (1,false):=by kernel_rfl
theorem LX:dY Tryz.prog 45=some (1,false):=by kernel_rfl
theorem E8:dY Tryz.prog 47=some (8,true):=by kernel_rfl
theorem mJ:dY Tryz.prog 87=some (1,false):=by kernel_rfl
theorem TU:dY Tryz.prog 88=some (17,true):=by kernel_rfl
theorem fC:dY Tryz.prog 90=some (1,false):=by kernel_rfl
theorem kY:dY Tryz.prog 123=some (2,true):=by kernel_rfl
theorem Q7:dY Tryz.prog 188=some (4,true):=by kernel_rfl
theorem QL:dY Tryz.prog 195=some (11,true):=by kernel_rfl
theorem aKG:dY Tryz.prog 201=some (40,true):=by kernel_rfl
theorem LB:dY Tryz.prog 322=some (2,true):=by kernel_rfl
theorem XC:jC Tryz.prog 123=some 16:=by kernel_rfl
theorem RA:jC Tryz.prog 138=some 64:=by kernel_rfl
theorem RU:jC Tryz.prog 170=some 24:=by kernel_rfl
theorem TJ:jC Tryz.prog 188=some 48:=by kernel_rfl
theorem WW:jC Tryz.prog 195=some 88:=by kernel_rfl
theorem wE:jC Tryz.prog 23=some 24:=by kernel_rfl
theorem mZ:jC Tryz.prog 29=some 88:=by kernel_rfl
theorem aNL:jC Tryz.prog 37=some 8:=by kernel_rfl
theorem Y1:jC Tryz.prog 47=some 160:=by kernel_rfl
theorem ZQ:iL Tryz.prog 1=some (1,[.nilFunc]):=by kernel_rfl
theorem BV:iL Tryz.prog 123=some (2,[.int .i64 0,.int .i64 0]):=by kernel_rfl
theorem KX:iL Tryz.prog 138=some (8,[.int .i64 0,.int .i64 0,.int .i64 0,.int .i64 0,.int .i64 0,.int .i64 0,.int .i64 0,.int .i64 0]):=by kernel_rfl
theorem IC:iL Tryz.prog 170=some (3,[.int .i64 0,.int .i64 0,.int .i64 0]):=by kernel_rfl
theorem X4:iL Tryz.prog 188=some (4,[.slice none 0 0,.int .i64 0,.int .i64 0,.int .i64 0]):=by kernel_rfl
theorem XJ:iL Tryz.prog 195=some (11,[.int .i64 0,.int .i64 0,.int .i64 0,.int .i64 0,.int .i64 0,.int .i64 0,.int .i64 0,.int .i64 0,.int .i64 0,.int .i64 0,.int .i64 0]):=by kernel_rfl
theorem oZ:iL Tryz.prog 23=some (1,[.slice none 0 0]):=by kernel_rfl
theorem aGG:iL Tryz.prog 24=some (1,[.slice none 0 0]):=by kernel_rfl
theorem iC:iL Tryz.prog 29=some (9,[.int .i64 0,.int .i64 0,.int .i64 0,.int .i64 0,.int .i64 0,.int .i64 0,.int .i64 0,.int .i64 0,.slice none 0 0]):=by kernel_rfl
theorem aMS:iL Tryz.prog 322=some (2,[.pointer none,.slice none 0 0]):=by kernel_rfl
theorem RP:iL Tryz.prog 37=some (1,[.int .i64 0]):=by kernel_rfl
theorem NP:iL Tryz.prog 47=some (8,[.int .i64 0,.bool false,.slice none 0 0,.slice none 0 0,.slice none 0 0,.slice none 0 0,.slice none 0 0,.slice none 0 0]):=by kernel_rfl
theorem lI:iL Tryz.prog 90=some (1,[.pointer none]):=by kernel_rfl
theorem aLJ:aU Tryz.prog 10=true:=by kernel_rfl
theorem US:aU Tryz.prog 103=true:=by kernel_rfl
theorem ND:aU Tryz.prog 105=true:=by kernel_rfl
theorem FP:aU Tryz.prog 106=true:=by kernel_rfl
theorem KG:aU Tryz.prog 107=true:=by kernel_rfl
theorem QG:aU Tryz.prog 108=true:=by kernel_rfl
theorem X3:aU Tryz.prog 109=true:=by kernel_rfl
theorem aL7:aU Tryz.prog 11=true:=by kernel_rfl
theorem F7:aU Tryz.prog 113=true:=by kernel_rfl
theorem aMQ:aU Tryz.prog 116=true:=by kernel_rfl
theorem wN:aU Tryz.prog 117=true:=by kernel_rfl
theorem aOV:aU Tryz.prog 118=true:=by kernel_rfl
theorem aMI:aU Tryz.prog 119=true:=by kernel_rfl
theorem TA:aU Tryz.prog 120=true:=by kernel_rfl
theorem aKC:aU Tryz.prog 122=true:=by kernel_rfl
theorem ZP:aU Tryz.prog 124=true:=by kernel_rfl
theorem QZ:aU Tryz.prog 125=true:=by kernel_rfl
theorem aN8:aU Tryz.prog 126=true:=by kernel_rfl
theorem aFF:aU Tryz.prog 127=true:=by kernel_rfl
theorem KJ:aU Tryz.prog 128=true:=by kernel_rfl
theorem IJ:aU Tryz.prog 129=true:=by kernel_rfl
theorem aBE:aU Tryz.prog 130=true:=by kernel_rfl
theorem aML:aU Tryz.prog 131=true:=by kernel_rfl
theorem UK:aU Tryz.prog 132=true:=by kernel_rfl
theorem aKR:aU Tryz.prog 133=true:=by kernel_rfl
theorem aMB:aU Tryz.prog 134=true:=by kernel_rfl
theorem aGM:aU Tryz.prog 135=true:=by kernel_rfl
theorem aAN:aU Tryz.prog 136=true:=by kernel_rfl
theorem aJN:aU Tryz.prog 138=true:=by kernel_rfl
theorem TM:aU Tryz.prog 139=true:=by kernel_rfl
theorem aKZ:aU Tryz.prog 14=true:=by kernel_rfl
theorem aAU:aU Tryz.prog 140=true:=by kernel_rfl
theorem V7:aU Tryz.prog 141=true:=by kernel_rfl
theorem TC:aU Tryz.prog 142=true:=by kernel_rfl
theorem YI:aU Tryz.prog 143=true:=by kernel_rfl
theorem aK6:aU Tryz.prog 144=true:=by kernel_rfl
theorem UI:aU Tryz.prog 145=true:=by kernel_rfl
theorem aF2:aU Tryz.prog 146=true:=by kernel_rfl
theorem PO:aU Tryz.prog 147=true:=by kernel_rfl
theorem CX:aU Tryz.prog 148=true:=by kernel_rfl
theorem TB:aU Tryz.prog 149=true:=by kernel_rfl
theorem aNW:aU Tryz.prog 15=true:=by kernel_rfl
theorem ZJ:aU Tryz.prog 151=true:=by kernel_rfl
theorem aH3:aU Tryz.prog 152=true:=by kernel_rfl
theorem aAS:aU Tryz.prog 153=true:=by kernel_rfl
theorem aME:aU Tryz.prog 157=true:=by kernel_rfl
theorem aD3:aU Tryz.prog 16=true:=by kernel_rfl
theorem aK7:aU Tryz.prog 163=true:=by kernel_rfl
theorem wO:aU Tryz.prog 164=true:=by kernel_rfl
theorem VP:aU Tryz.prog 168=true:=by kernel_rfl
theorem M9:aU Tryz.prog 169=true:=by kernel_rfl
theorem aCT:aU Tryz.prog 17=true:=by kernel_rfl
theorem Q4:aU Tryz.prog 170=true:=by kernel_rfl
theorem WV:aU Tryz.prog 171=true:=by kernel_rfl
theorem aNB:aU Tryz.prog 172=true:=by kernel_rfl
theorem aH4:aU Tryz.prog 173=true:=by kernel_rfl
theorem D9:aU Tryz.prog 174=true:=by kernel_rfl
theorem O8:aU Tryz.prog 175=true:=by kernel_rfl
theorem M7:aU Tryz.prog 176=true:=by kernel_rfl
theorem aBH:aU Tryz.prog 177=true:=by kernel_rfl
theorem aMH:aU Tryz.prog 178=true:=by kernel_rfl
theorem aEJ:aU Tryz.prog 179=true:=by kernel_rfl
theorem aK2:aU Tryz.prog 18=true:=by kernel_rfl
theorem aKS:aU Tryz.prog 184=true:=by kernel_rfl
theorem LC:aU Tryz.prog 185=true:=by kernel_rfl
theorem IU:aU Tryz.prog 186=true:=by kernel_rfl
theorem qZ:aU Tryz.prog 187=true:=by kernel_rfl
theorem X6:aU Tryz.prog 188=true:=by kernel_rfl
theorem aOK:aU Tryz.prog 19=true:=by kernel_rfl
theorem aIZ:aU Tryz.prog 191=true:=by kernel_rfl
theorem OJ:aU Tryz.prog 192=true:=by kernel_rfl
theorem aM8:aU Tryz.prog 193=true:=by kernel_rfl
theorem aIJ:aU Tryz.prog 194=true:=by kernel_rfl
theorem aJA:aU Tryz.prog 195=true:=by kernel_rfl
theorem aH1:aU Tryz.prog 196=true:=by kernel_rfl
theorem aMC:aU Tryz.prog 197=true:=by kernel_rfl
theorem YK:aU Tryz.prog 198=true:=by kernel_rfl
theorem xB:aU Tryz.prog 20=true:=by kernel_rfl
theorem GM:aU Tryz.prog 21=true:=by kernel_rfl
theorem aIK:aU Tryz.prog 211=true:=by kernel_rfl
theorem aGD:aU Tryz.prog 212=true:=by kernel_rfl
theorem aE4:aU Tryz.prog 213=true:=by kernel_rfl
theorem aAE:aU Tryz.prog 214=true:=by kernel_rfl
theorem aD2:aU Tryz.prog 215=true:=by kernel_rfl
theorem XK:aU Tryz.prog 216=true:=by kernel_rfl
theorem JS:aU Tryz.prog 217=true:=by kernel_rfl
theorem aG0:aU Tryz.prog 218=true:=by kernel_rfl
theorem OU:aU Tryz.prog 219=true:=by kernel_rfl
theorem aG5:aU Tryz.prog 22=true:=by kernel_rfl
theorem YV:aU Tryz.prog 220=true:=by kernel_rfl
theorem aFA:aU Tryz.prog 221=true:=by kernel_rfl
theorem aKO:aU Tryz.prog 222=true:=by kernel_rfl
theorem aCU:aU Tryz.prog 223=true:=by kernel_rfl
theorem aA4:aU Tryz.prog 229=true:=by kernel_rfl
theorem Y3:aU Tryz.prog 23=true:=by kernel_rfl
theorem aEA:aU Tryz.prog 230=true:=by kernel_rfl
theorem aHK:aU Tryz.prog 231=true:=by kernel_rfl
theorem aNZ:aU Tryz.prog 24=true:=by kernel_rfl
theorem aKD:aU Tryz.prog 250=true:=by kernel_rfl
theorem aJZ:aU Tryz.prog 251=true:=by kernel_rfl
theorem WL:aU Tryz.prog 253=true:=by kernel_rfl
theorem aM7:aU Tryz.prog 255=true:=by kernel_rfl
theorem aGU:aU Tryz.prog 256=true:=by kernel_rfl
theorem aJV:aU Tryz.prog 260=true:=by kernel_rfl
theorem FE:aU Tryz.prog 27=true:=by kernel_rfl
theorem IL:aU Tryz.prog 273=true:=by kernel_rfl
theorem CV:aU Tryz.prog 28=true:=by kernel_rfl
theorem YG:aU Tryz.prog 29=true:=by kernel_rfl
theorem aLS:aU Tryz.prog 30=true:=by kernel_rfl
theorem QV:aU Tryz.prog 302=true:=by kernel_rfl
theorem aFY:aU Tryz.prog 303=true:=by kernel_rfl
theorem aLB:aU Tryz.prog 305=true:=by kernel_rfl
theorem aKJ:aU Tryz.prog 307=true:=by kernel_rfl
theorem aD0:aU Tryz.prog 31=true:=by kernel_rfl
theorem VE:aU Tryz.prog 32=true:=by kernel_rfl
theorem G7:aU Tryz.prog 34=true:=by kernel_rfl
theorem YC:aU Tryz.prog 35=true:=by kernel_rfl
theorem mM:aU Tryz.prog 36=true:=by kernel_rfl
theorem W9:aU Tryz.prog 37=true:=by kernel_rfl
theorem mP:aU Tryz.prog 38=true:=by kernel_rfl
theorem eG:aU Tryz.prog 40=true:=by kernel_rfl
theorem lM:aU Tryz.prog 41=true:=by kernel_rfl
theorem aLF:aU Tryz.prog 42=true:=by kernel_rfl
theorem aFT:aU Tryz.prog 43=true:=by kernel_rfl
theorem OD:aU Tryz.prog 45=true:=by kernel_rfl
theorem aN2:aU Tryz.prog 46=true:=by kernel_rfl
theorem NR:aU Tryz.prog 48=true:=by kernel_rfl
theorem aGW:aU Tryz.prog 49=true:=by kernel_rfl
theorem SE:aU Tryz.prog 5=true:=by kernel_rfl
theorem aAJ:aU Tryz.prog 50=true:=by kernel_rfl
theorem pO:aU Tryz.prog 55=true:=by kernel_rfl
theorem S8:aU Tryz.prog 56=true:=by kernel_rfl
theorem AY:aU Tryz.prog 57=true:=by kernel_rfl
theorem aMY:aU Tryz.prog 58=true:=by kernel_rfl
theorem MS:aU Tryz.prog 59=true:=by kernel_rfl
theorem G9:aU Tryz.prog 6=true:=by kernel_rfl
theorem Z4:aU Tryz.prog 60=true:=by kernel_rfl
theorem aCD:aU Tryz.prog 61=true:=by kernel_rfl
theorem WU:aU Tryz.prog 62=true:=by kernel_rfl
theorem aB7:aU Tryz.prog 63=true:=by kernel_rfl
theorem aBI:aU Tryz.prog 67=true:=by kernel_rfl
theorem JO:aU Tryz.prog 7=true:=by kernel_rfl
theorem wU:aU Tryz.prog 70=true:=by kernel_rfl
theorem xP:aU Tryz.prog 71=true:=by kernel_rfl
theorem aH7:aU Tryz.prog 72=true:=by kernel_rfl
theorem rV:aU Tryz.prog 73=true:=by kernel_rfl
theorem VI:aU Tryz.prog 74=true:=by kernel_rfl
theorem GY:aU Tryz.prog 75=true:=by kernel_rfl
theorem mE:aU Tryz.prog 76=true:=by kernel_rfl
theorem aNY:aU Tryz.prog 78=true:=by kernel_rfl
theorem QW:aU Tryz.prog 8=true:=by kernel_rfl
theorem YJ:aU Tryz.prog 80=true:=by kernel_rfl
theorem R7:aU Tryz.prog 81=true:=by kernel_rfl
theorem aNS:aU Tryz.prog 82=true:=by kernel_rfl
theorem aDI:aU Tryz.prog 83=true:=by kernel_rfl
theorem aLV:aU Tryz.prog 84=true:=by kernel_rfl
theorem aBO:aU Tryz.prog 85=true:=by kernel_rfl
theorem aM3:aU Tryz.prog 86=true:=by kernel_rfl
theorem aBZ:aU Tryz.prog 87=true:=by kernel_rfl
theorem qR:aU Tryz.prog 88=true:=by kernel_rfl
theorem aIX:aU Tryz.prog 89=true:=by kernel_rfl
theorem O1:aU Tryz.prog 9=true:=by kernel_rfl
theorem aFW:aU Tryz.prog 90=true:=by kernel_rfl
theorem aMF:aU Tryz.prog 91=true:=by kernel_rfl
theorem uN:aU Tryz.prog 98=true:=by kernel_rfl
theorem aBJ:kH Tryz.prog 123 0=some 0:=by kernel_rfl
theorem VV:kH Tryz.prog 26 2=some 2:=by kernel_rfl
theorem U7:kH Tryz.prog 26 3=some 3:=by kernel_rfl
theorem YF:kH Tryz.prog 26 4=some 4:=by kernel_rfl
theorem lW:kH Tryz.prog 29 0=some 0:=by kernel_rfl
theorem TX:kH Tryz.prog 29 1=some 1:=by kernel_rfl
theorem RJ:kH Tryz.prog 29 2=some 2:=by kernel_rfl
theorem QA:kH Tryz.prog 29 3=some 3:=by kernel_rfl
theorem JQ:kH Tryz.prog 29 5=some 5:=by kernel_rfl
theorem I1:kH Tryz.prog 29 6=some 6:=by kernel_rfl
theorem YT:kH Tryz.prog 29 7=some 7:=by kernel_rfl
theorem aNQ:kH Tryz.prog 29 8=some 8:=by kernel_rfl
theorem H8:kH Tryz.prog 47 2=some 2:=by kernel_rfl
theorem aE8:kH Tryz.prog 47 3=some 3:=by kernel_rfl
theorem N8:kH Tryz.prog 47 4=some 4:=by kernel_rfl
theorem ibx:Extern.findNext Tryz.f249=none:=by kernel_rfl
theorem iby:Extern.find Tryz.f249=some Extern.BytealgIndexByte.indexByte:=by kernel_rfl
theorem ON:vP Tryz.prog 253 "purveyor/apply.do"=some 302:=by kernel_rfl
theorem ZO:vP Tryz.prog 312 "purveyor/pool.in"=some 303:=by kernel_rfl
theorem aN5:vP Tryz.prog 313 "purveyor/pool.in"=some 305:=by kernel_rfl
theorem aM4:vT Tryz.prog 26=some [(0,1),(1,1),(2,1),(3,1),(4,1)]:=by kernel_rfl
theorem X9:vT Tryz.prog 29=some [(0,1),(1,1),(2,1),(3,1),(4,1),(5,1),(6,1),(7,1),(8,1)]:=by kernel_rfl
theorem aHB:vT Tryz.prog 35=some [(0,5),(5,1),(6,1),(7,1),(8,1),(9,1)]:=by kernel_rfl
theorem aC8:vT Tryz.prog 47=some [(0,1),(1,1),(2,1),(3,1),(4,1),(5,1),(6,1),(7,1)]:=by kernel_rfl
theorem aDM:zeroOf Tryz.prog 123=some [.int .i64 0,.int .i64 0]:=by kernel_rfl
theorem z138:zeroOf Tryz.prog 138=some [.int .i64 0,.int .i64 0,.int .i64 0,.int .i64 0,.int .i64 0,.int .i64 0,.int .i64 0,.int .i64 0]:=by kernel_rfl
theorem aLT:zeroOf Tryz.prog 140=some [.int .i64 0,.int .i64 0,.int .i64 0,.int .i64 0,.int .i64 0,.int .i64 0,.int .i64 0,.int .i64 0,.bool false]:=by kernel_rfl
theorem aJT:zeroOf Tryz.prog 142=some [.int .i64 0,.int .i64 0,.int .i64 0,.int .i64 0,.int .i64 0,.int .i64 0]:=by kernel_rfl
theorem aHN:zeroOf Tryz.prog 147=some [.nilFunc]:=by kernel_rfl
theorem aIN:zeroOf Tryz.prog 151=some [.nilFunc]:=by kernel_rfl
theorem z156:zeroOf Tryz.prog 156=some [.nilFunc]:=by kernel_rfl
theorem aJU:zeroOf Tryz.prog 161=some [.nilFunc]:=by kernel_rfl
theorem aDO:zeroOf Tryz.prog 170=some [.int .i64 0,.int .i64 0,.int .i64 0]:=by kernel_rfl
theorem aN7:zeroOf Tryz.prog 188=some [.slice none 0 0,.int .i64 0,.int .i64 0,.int .i64 0]:=by kernel_rfl
theorem aAV:zeroOf Tryz.prog 195=some [.int .i64 0,.int .i64 0,.int .i64 0,.int .i64 0,.int .i64 0,.int .i64 0,.int .i64 0,.int .i64 0,.int .i64 0,.int .i64 0,.int .i64 0]:=by kernel_rfl
theorem z201:zeroOf Tryz.prog 201=some [.bool false,.bool false,.bool false,.bool false,.bool false,.bool false,.bool false,.bool false,.bool false,.bool false,.bool false,.bool false,.bool false,.bool false,.bool false,.bool false,.bool false,.bool false,.bool false,.bool false,.bool false,.bool false,.bool false,.bool false,.bool false,.bool false,.bool false,.bool false,.bool false,.bool false,.bool false,.bool false,.bool false,.bool false,.bool false,.bool false,.bool false,.bool false,.bool false,.bool false]:=by kernel_rfl
theorem z213:zeroOf Tryz.prog 213=some [.nilFunc]:=by kernel_rfl
theorem aIG:zeroOf Tryz.prog 217=some [.nilFunc]:=by kernel_rfl
theorem aJK:zeroOf Tryz.prog 221=some [.nilFunc]:=by kernel_rfl
theorem z26:zeroOf Tryz.prog 26=some [.int .i64 0,.int .i64 0,.slice none 0 0,.slice none 0 0,.slice none 0 0]:=by kernel_rfl
theorem aF8:zeroOf Tryz.prog 266=some [.nilFunc]:=by kernel_rfl
theorem aM2:zeroOf Tryz.prog 284=some [.int .i64 0,.int .i64 0,.slice none 0 0,.slice none 0 0,.slice none 0 0,.slice none 0 0,.slice none 0 0,.slice none 0 0,.slice none 0 0,.int .i64 0]:=by kernel_rfl
theorem z29:zeroOf Tryz.prog 29=some [.int .i64 0,.int .i64 0,.int .i64 0,.int .i64 0,.int .i64 0,.int .i64 0,.int .i64 0,.int .i64 0,.slice none 0 0]:=by kernel_rfl
theorem z3:zeroOf Tryz.prog 3=some [.int .i64 0]:=by kernel_rfl
theorem aES:zeroOf Tryz.prog 312=some []:=by kernel_rfl
theorem aCI:zeroOf Tryz.prog 313=some []:=by kernel_rfl
theorem aE6:zeroOf Tryz.prog 314=some []:=by kernel_rfl
theorem aMR:zeroOf Tryz.prog 322=some [.pointer none,.slice none 0 0]:=by kernel_rfl
theorem aD4:zeroOf Tryz.prog 329=some [.nilFunc,.nilFunc,.nilFunc]:=by kernel_rfl
theorem z35:zeroOf Tryz.prog 35=some [.int .i64 0,.int .i64 0,.slice none 0 0,.slice none 0 0,.slice none 0 0,.slice none 0 0,.slice none 0 0,.slice none 0 0,.slice none 0 0,.int .i64 0]:=by kernel_rfl
theorem z36:zeroOf Tryz.prog 36=some [.slice none 0 0]:=by kernel_rfl
theorem z37:zeroOf Tryz.prog 37=some [.int .i64 0]:=by kernel_rfl
theorem z47:zeroOf Tryz.prog 47=some [.int .i64 0,.bool false,.slice none 0 0,.slice none 0 0,.slice none 0 0,.slice none 0 0,.slice none 0 0,.slice none 0 0]:=by kernel_rfl
theorem z49:zeroOf Tryz.prog 49=some [.nilFunc]:=by kernel_rfl
theorem YX:zeroOf Tryz.prog 81=some [.pointer none]:=by kernel_rfl
theorem Y0:zeroOf Tryz.prog 88=some [.string ⟨#[]⟩,.string ⟨#[]⟩,.string ⟨#[]⟩,.string ⟨#[]⟩,.string ⟨#[]⟩,.string ⟨#[]⟩,.string ⟨#[]⟩,.string ⟨#[]⟩,.string ⟨#[]⟩,.string ⟨#[]⟩,.string ⟨#[]⟩,.string ⟨#[]⟩,.string ⟨#[]⟩,.string ⟨#[]⟩,.string ⟨#[]⟩,.string ⟨#[]⟩,.string ⟨#[]⟩]:=by kernel_rfl
theorem z99:zeroOf Tryz.prog 99=some [.pointer none,.slice none 0 0,.pointer none]:=by kernel_rfl
theorem OX:AR Tryz.prog 314=true:=by kernel_rfl
theorem zi3:(Tryz.prog.info? 3).bind (·.zero)=some (.int .i64 0):=by kernel_rfl
theorem z1:zeroOf Tryz.prog 1=some [.nilFunc]:=by kernel_rfl
theorem z23:zeroOf Tryz.prog 23=some [.slice none 0 0]:=by kernel_rfl
theorem z24:zeroOf Tryz.prog 24=some [.slice none 0 0]:=by kernel_rfl
theorem z90:zeroOf Tryz.prog 90=some [.pointer none]:=by kernel_rfl
noncomputable section
def tb:gF:={ sh:=[(0,(1,false)),(1,(1,false)),(3,(1,false)),(4,(1,false)),(5,(1,false)),(23,(1,false)),(24,(1,false)),(26,(5,true)),(27,(1,false)),(29,(9,true)),(30,(1,false)),(31,(1,false)),(32,(1,false)),(33,(1,false)),(35,(10,true)),(36,(1,false)),(37,(1,false)),(44,(1,false)),(45,(1,false)),(47,(8,true)),(49,(1,false)),(53,(1,false)),(81,(1,false)),(90,(1,false)),(123,(2,true)),(127,(1,false)),(138,(8,true)),(140,(9,true)),(142,(6,true)),(144,(1,false)),(147,(1,true)),(149,(1,false)),(151,(1,true)),(154,(1,false)),(156,(1,true)),(159,(1,false)),(161,(1,true)),(170,(3,true)),(185,(1,false)),(186,(3,true)),(188,(4,true)),(195,(11,true)),(211,(1,false)),(215,(1,false)),(217,(1,true)),(219,(1,false)),(241,(1,false)),(264,(1,false)),(266,(1,true)),(271,(1,false)),(284,(10,true)),(314,(0,true)),(322,(2,true)),(327,(1,false)),(329,(3,true))],fo:=[((26,0),0),((26,1),1),((26,2),2),((26,3),3),((26,4),4),((29,0),0),((29,1),1),((29,2),2),((29,3),3),((29,4),4),((29,5),5),((29,6),6),((29,7),7),((29,8),8),((35,0),0),((35,1),5),((35,2),6),((35,3),7),((35,4),8),((35,5),9),((47,0),0),((47,1),1),((47,2),2),((47,3),3),((47,4),4),((47,5),5),((47,6),6),((47,7),7),((99,0),0),((99,1),2),((123,0),0),((123,1),1),((138,0),0),((138,1),1),((138,2),2),((138,3),3),((138,4),4),((138,5),5),((138,6),6),((138,7),7),((140,0),0),((140,1),1),((140,2),2),((140,3),3),((140,4),4),((140,5),5),((140,6),6),((140,7),7),((140,8),8),((142,0),0),((142,1),1),((142,2),2),((142,3),3),((142,4),4),((142,5),5),((147,0),0),((151,0),0),((156,0),0),((161,0),0),((170,0),0),((170,1),1),((170,2),2),((188,0),0),((188,1),1),((195,0),0),((195,1),1),((195,2),2),((195,3),3),((195,4),4),((195,5),5),((195,6),6),((195,7),7),((195,8),8),((195,9),9),((195,10),10),((213,0),0),((217,0),0),((221,0),0),((266,0),0),((284,0),0),((322,0),0),((322,1),1)],fp:=[((170,0),(0,3)),((188,0),(0,185)),((329,0),(0,327)),((329,2),(2,271))],ki:=[(3,.i64),(5,.u8),(21,.i32)],se:=[(23,3),(24,23),(27,29),(30,47),(31,138),(32,140),(33,142),(36,37),(44,188),(45,195),(51,5),(53,123),(185,170),(205,24),(233,90),(295,1),(323,322)],bl:=[(26,[(0,1),(1,1),(2,1),(3,1),(4,1)]),(29,[(0,1),(1,1),(2,1),(3,1),(4,1),(5,1),(6,1),(7,1),(8,1)]),(35,[(0,5),(5,1),(6,1),(7,1),(8,1),(9,1)]),(99,[(0,2),(2,1)]),(123,[(0,1),(1,1)]),(131,[(0,1),(1,1)]),(138,[(0,1),(1,1),(2,1),(3,1),(4,1),(5,1),(6,1),(7,1)]),(147,[(0,1)]),(151,[(0,1)]),(156,[(0,1)]),(161,[(0,1)]),(170,[(0,1),(1,1),(2,1)]),(195,[(0,1),(1,1),(2,1),(3,1),(4,1),(5,1),(6,1),(7,1),(8,1),(9,1),(10,1)]),(213,[(0,1)]),(217,[(0,1)]),(221,[(0,1)]),(266,[(0,1)]),(284,[(0,10)]),(312,[]),(313,[]),(322,[(0,1),(1,1)]),(329,[(0,1),(1,1),(2,1)])],zs:=[(1,[.nilFunc]),(3,[.int .i64 0]),(23,[.slice none 0 0]),(24,[.slice none 0 0]),(26,[.int .i64 0,.int .i64 0,.slice none 0 0,.slice none 0 0,.slice none 0 0]),(29,[.int .i64 0,.int .i64 0,.int .i64 0,.int .i64 0,.int .i64 0,.int .i64 0,.int .i64 0,.int .i64 0,.slice none 0 0]),(35,[.int .i64 0,.int .i64 0,.slice none 0 0,.slice none 0 0,.slice none 0 0,.slice none 0 0,.slice none 0 0,.slice none 0 0,.slice none 0 0,.int .i64 0]),(37,[.int .i64 0]),(47,[.int .i64 0,.bool false,.slice none 0 0,.slice none 0 0,.slice none 0 0,.slice none 0 0,.slice none 0 0,.slice none 0 0]),(49,[.nilFunc]),(81,[.pointer none]),(90,[.pointer none]),(97,[.pointer none,.slice none 0 0]),(99,[.pointer none,.slice none 0 0,.pointer none]),(123,[.int .i64 0,.int .i64 0]),(131,[.string ⟨#[]⟩,.bool false]),(138,[.int .i64 0,.int .i64 0,.int .i64 0,.int .i64 0,.int .i64 0,.int .i64 0,.int .i64 0,.int .i64 0]),(140,[.int .i64 0,.int .i64 0,.int .i64 0,.int .i64 0,.int .i64 0,.int .i64 0,.int .i64 0,.int .i64 0,.bool false]),(142,[.int .i64 0,.int .i64 0,.int .i64 0,.int .i64 0,.int .i64 0,.int .i64 0]),(147,[.nilFunc]),(151,[.nilFunc]),(156,[.nilFunc]),(161,[.nilFunc]),(170,[.int .i64 0,.int .i64 0,.int .i64 0]),(188,[.slice none 0 0,.int .i64 0,.int .i64 0,.int .i64 0]),(195,[.int .i64 0,.int .i64 0,.int .i64 0,.int .i64 0,.int .i64 0,.int .i64 0,.int .i64 0,.int .i64 0,.int .i64 0,.int .i64 0,.int .i64 0]),(213,[.nilFunc]),(217,[.nilFunc]),(221,[.nilFunc]),(266,[.nilFunc]),(284,[.int .i64 0,.int .i64 0,.slice none 0 0,.slice none 0 0,.slice none 0 0,.slice none 0 0,.slice none 0 0,.slice none 0 0,.slice none 0 0,.int .i64 0]),(312,[]),(313,[]),(314,[]),(322,[.pointer none,.slice none 0 0]),(329,[.nilFunc,.nilFunc,.nilFunc])],bz:=[(1,1),(3,1),(23,1),(24,1),(29,9),(90,1),(123,2),(138,8),(170,3),(322,2)],bb:=[(3,8),(23,24),(123,16),(138,64),(170,24)],ar:=[(186,(3,3))] }
theorem aA:dN Tryz.prog tb:=⟨⟨by kernel_rfl,by kernel_rfl,by kernel_rfl⟩,by kernel_rfl,by kernel_rfl,by kernel_rfl,⟨z1,z3,z23,z24,z26,z29,z35,z37,z47,z49,YX,z90,KQ,z99,aDM,z131,z138,aLT,aJT,aHN,aIN,z156,aJU,aDO,aN7,aAV,z213,aIG,aJK,aF8,aM2,aES,aCI,aE6,aMR,aD4,trivial⟩,by kernel_rfl,by kernel_rfl,by kernel_rfl⟩
abbrev WB (R:Type):=WT Tryz.prog (.b R)
abbrev PZ {B:Type} (o:Option B) (k:FuncId) (args:List AV) (V:B->AV):Prop:=PQ Tryz.prog o k args V
theorem UX {p:Prop} (h:p:=by intro r;repeat' (first | exact qI _ | exact qD _ | exact yI _ | exact M4 _ _ | exact WN | exact .agg (eU.eH _) | exact .agg (cZ.eH _) | exact .agg (aF.eH _) | exact .agg (oW.eH _) | exact .agg (dB.eH _) | exact .agg (uJ.eH _) | exact .agg (dK.eH _) | exact .agg (gI.eH _) | exact (bC.gU _ ▸ PV.agg (bC.eH _)) | exact .agg (iJ.eH _) | exact .agg (mG.eH _) | exact .agg (mO.eH _) | exact .agg (bD.eH _) | exact .agg (yJ.eH _) | exact .agg (zA.eH _) | exact .agg (bY.eH _) | refine .aS ?_ | refine VM ?_ ?_ | refine rG ?_ _ | exact yD | exact UF | exact XI | exact XY _ | exact eU.eH | exact cZ.eH | exact aF.eH | exact oW.eH | exact dB.eH | exact uJ.eH | exact dK.eH | exact gI.eH | exact bC.eH | exact iJ.eH | exact mG.eH | exact mO.eH | exact bD.eH | exact yJ.eH | exact zA.eH | exact bY.eH | refine XV ?_)):p:=h
theorem wq {R:Type} {V:R->AV} {g:FuncId} {fn:Func} {ar:List AV} {t:WB R} (hf:Tryz.prog.funcs[g]?=some fn) (h:WP Tryz.prog tb 100000 ⟨fn.ntmps,false,[]⟩ t (.fn (JF tb fn.results.toList V) I4) (.c [zF fn]) (λt=>ar[t]?) H0 []:=by exact au) (hpv:∀ a,PV (V a):=by exact UX) (hb:fn.body=some (zF fn):=by rfl) (hle:Nat.ble ar.length fn.ntmps=true:=by rfl):PZ t.run g ar V:=λ_ h0=>QB mixed aA V h0 hf hpv 100000 h hb hle
theorem wm {R:Type} {V:R->AV} {g:FuncId} {fn:Func} {ar:List AV} {t:WB R} (hf:Tryz.prog.funcs[g]?=some fn) (h:WP Tryz.prog tb 100000 ⟨fn.ntmps,false,[]⟩ t (.fn (JF tb fn.results.toList V) I4) (.c [zF fn]) (λt=>ar[t]?) H0 []) (hpv:∀ a,PV (V a):=by exact UX) (hb:fn.body=some (zF fn):=by rfl) (hle:Nat.ble ar.length fn.ntmps=true:=by rfl):PZ t.run g ar V:=λ_ h0=>QB mixed aA V h0 hf hpv 100000 h hb hle
def eB (v:Int):Option (List UInt8):=bU (-9223372036854775808<=v/\v<=9223372036854775807) <| some (enc v)
theorem fG {v:Int} {r:List UInt8} (h:eB v=some r):PP Tryz.prog 77 [int v] (λy=>y=str r):=by
  unfold eB at h;obtain ⟨p,h⟩:=cO h;obtain rfl:=bE h;exact KS p
def rY (v:Int):Option (List UInt8):=bU (-9223372036854775808<=v/\v<=9223372036854775807) <| some (enc v)
theorem wD {v:Int} {r:List UInt8} (h:rY v=some r):PP Tryz.prog 20 [int v] (λy=>y=str r):=by
  unfold rY at h;obtain ⟨p,h⟩:=cO h;obtain rfl:=bE h;exact aNC p
def zK (v:List Int):Option (List UInt8):=bU ((∀ x∈v,-9223372036854775808<=x/\x<=9223372036854775807)/\v.length<=68719476736) <| some (lG v)
theorem OA {v:List Int} {r:List UInt8} (h:zK v=some r):PP Tryz.prog 45 [ints v] (λy=>y=str r):=by
  unfold zK at h;obtain ⟨p,h⟩:=cO h;obtain rfl:=bE h;exact aED p.1 p.2
theorem GZ:tC Tryz.prog 28 3 1 fI:=xN Tryz.func28 CV Tryz.underlying23 kN pZ
theorem C7:tC Tryz.prog 113 47 8 bC.av:=xN Tryz.func113 F7 Tryz.underlying30 NP Y1
theorem aF3 {H:AH} {id:Nat} {N:Int} (hid:H id=none) (hN:0<=N/\N<=1048576):PC Tryz.prog 122 [.sc (.slice none 0 0),int N] H (λy H'=>∃ aD,y=.sl id aD 0 0/\H'=upd H id (some ⟨23,1,true,true,aD,[]⟩)):=by
  refine kG (c:=_) Tryz.func122 rfl rfl ?_;intro Q hret hnorm
  repeat (refine bN ?_)
  refine bS ?_;intro K hK
  refine st rfl rfl rfl (dG rfl rfl) ?_
  refine bQ (hK _ ?_)
  repeat (refine bN ?_)
  refine bS ?_;intro K hK
  refine st rfl rfl rfl (bF rfl rfl) ?_
  refine st rfl rfl rfl (aH (y:=aB false) (mU rfl rfl rfl) (congrArg aB (decide_eq_false (by omega)))) ?_
  refine bQ (hK _ ?_)
  refine sN rfl ?_
  refine kQ ?_
  repeat (refine bN ?_)
  refine bS ?_;intro K hK
  refine st rfl rfl rfl (bF rfl rfl) ?_
  refine st rfl rfl rfl (bF rfl rfl) ?_
  refine st rfl rfl rfl (VW rfl Tryz.underlying24 rfl) ?_
  refine st rfl rfl rfl (bF rfl rfl) ?_
  refine st rfl rfl rfl (iT rfl Tryz.underlying24 rfl (.nil _ _ _)) ?_
  refine st rfl rfl rfl (MJ (r:=0) rfl rfl rfl (by decide)) ?_
  refine st rfl rfl rfl (MJ (r:=N) rfl rfl rfl (by rw [Int.sub_zero];exact wrap64 (by omega))) ?_
  refine st rfl rfl rfl (dG rfl rfl) ?_
  refine bQ (hK _ ?_)
  repeat (refine bN ?_)
  refine bS ?_;intro K hK
  refine st rfl rfl rfl (bF rfl rfl) ?_
  refine st rfl rfl rfl (wP rfl rfl rfl) ?_
  refine bQ (hK _ ?_)
  refine o7 rfl ?_ ?_
  · intro hp
    repeat (refine bN ?_)
    refine bS ?_;intro K hK
    refine st rfl rfl rfl (bF rfl rfl) ?_
    refine st rfl rfl rfl (bF rfl rfl) ?_
    refine st rfl rfl rfl (VW rfl Tryz.underlying24 rfl) ?_
    refine st rfl rfl rfl (aGJ rfl Tryz.underlying24 vD rfl .no (.yes rfl rfl)) ?_
    refine st rfl rfl rfl (bF rfl rfl) ?_
    refine se rfl rfl rfl (aE7 (U2:=no) id .any rfl Tryz.underlying24 Tryz.underlying3 oZ wE rfl rfl rfl ⟨hp,hN.2⟩ rfl) ?_;rintro _ _ ⟨v,-,rfl,rfl⟩
    refine st rfl rfl rfl (bF rfl rfl) ?_
    refine st rfl rfl rfl (iT rfl Tryz.underlying24 rfl (.nil _ _ _)) ?_
    refine st rfl rfl rfl (M6 (i:=0) (j:=0) rfl Tryz.underlying24 vD rfl (upd_same _ _ _) rfl rfl .no (.yes rfl rfl) (Nat.le_refl _) (Nat.zero_le _) (.inr rfl)) ?_
    refine st rfl rfl rfl (dG rfl rfl) ?_
    refine bQ (hK _ ?_)
    repeat (refine bN ?_)
    refine bS ?_;intro K hK
    refine st rfl rfl rfl (bF rfl rfl) ?_
    refine st rfl rfl rfl (dG rfl rfl) ?_
    refine bQ (hK _ ?_)
    refine iG (hret _ _ _ (.tmp rfl .nil) (λ_ _ h=>h) ?_)
    exact ⟨v,rfl,rfl⟩
  · intro hp
    refine kQ ?_
    repeat (refine bN ?_)
    refine bS ?_;intro K hK
    refine st rfl rfl rfl (bF rfl rfl) ?_
    refine st rfl rfl rfl (dG rfl rfl) ?_
    refine bQ (hK _ ?_)
    refine tJ 4 id 23 1 rfl hid ?_;intro v
    refine iG (hret _ _ _ (.tmp rfl .nil) (λ_ _ h=>h) ?_)
    exact ⟨v,rfl,rfl⟩
theorem R5:tC Tryz.prog 143 123 2 bY.av:=xN Tryz.func143 YI Tryz.underlying53 BV XC
theorem SV:tC Tryz.prog 151 188 4 dK.av:=xN Tryz.func151 ZJ Tryz.underlying44 X4 TJ
theorem VN:tC Tryz.prog 188 195 11 gI.av:=xN Tryz.func188 X6 Tryz.underlying45 XJ WW
theorem TZ:tC Tryz.prog 198 138 8 iJ.av:=xN Tryz.func198 YK Tryz.underlying31 KX RA
theorem LM:tC Tryz.prog 217 170 3 dB.av:=xN Tryz.func217 JS Tryz.underlying185 IC RU
theorem aBR {p:Prop} (h:p:=by first | exact GZ | exact C7 | exact R5 | exact SV | exact VN | exact TZ | exact LM):p:=h
def aNO (a1:Int) (a2:Int) (a3:Int):WB (Bool) :=
 .jn 1 [] [] [] (λ_ (a:Bool)=>[(6,aB a)]) (λ_ _=>[]) (.bB 9 (decide (a1>=a2)) λx4=>.ifs [9] x4 (.bB 13 (decide (a1<=a3)) λx5=>.ret x5) (.ret false)) (λy0_1=>.ret ((y0_1:Bool)))
def yO (a1:Int) (a2:Int) (a3:Int):Option (Bool):=(aNO a1 a2 a3).run
theorem AJ {a1 a2 a3}:PZ (yO a1 a2 a3) 57 [int a1,int a2,int a3] aB:=wq Tryz.func57
def aL9 (a1:Int):WB (Bool) :=
 .cl 4 (yO a1 0 1073741824) AY AJ λx2=>.ret ((x2:Bool))
def MC (a1:Int):Option (Bool):=(aL9 a1).run
theorem XO {a1}:PZ (MC a1) 56 [int a1] aB:=wq Tryz.func56
def Z9 (a1:Int):WB (Bool) :=
 .cl 4 (yO a1 1 4) AY AJ λx2=>.ret ((x2:Bool))
def QX (a1:Int):Option (Bool):=(Z9 a1).run
theorem aMD {a1}:PZ (QX a1) 60 [int a1] aB:=wq Tryz.func60
def ZT (n:Nat) (a1:eU):WB (Bool) :=
 .al 1<|.ln 9 fI a1.dH<|.al 2<|.al 3<|.jn 2 [] [] [] (λ_ (a:Bool)=>[(2,aB a)]) (λ_ _=>[]) (.cl 14 (yO a1.iD 1 4) AY AJ λx5=>.ifs [14] x5 (.cl 18 (yO a1.kV 1 12) AY AJ λx6=>.ifs [18] x6 (.cl 22 (yO (a1.dH.length:Int) 1 5) AY AJ λx7=>.ifs [22] x7 (.inl 29 MS Tryz.func59 [1,2,3] [] (λ_ (a:Bool)=>aB a) (λ_ _=>[]) (.al 4<|.jn 0 [] [1,2,3] [] (λ_ (a:Bool)=>[(6,aB a)]) (λ_ _=>[]) (.ln 8 fI a1.dH<|.bB 10 (decide ((a1.dH.length:Int)=(a1.dH.length:Int))) λx9=>.ifs [10] x9 (.inl 14 FP Tryz.func106 [1,2,3,4] [] (λ_ (a:Bool)=>aB a) (λ_ _=>[]) (.inl 7 CX Tryz.func148 [1,2,3,4] [] (λ_ (a:Int)=>int a) (λ_ _=>[]) (.ln 7 fI a1.dH<|.iA 0 [4] [1,2,3,4] [] (λ_ (a:Unit)=>[]) (λ_ _=>[]) (.lp [0,1,4,7] [1,2,3,4] [] (λ_ (a:Int)=>[(8,int a)]) (λ_ _=>[]) n 0 (λy0_1=>.bB 9 (decide (y0_1<(a1.dH.length:Int))) λx10=>.ifs [9] x10 (.ix 14 fI a1.dH y0_1 λx11=>.inl 16 KG Tryz.func107 [1,2,3,4] [] (λ_ (a:Bool)=>aB a) (λ_ _=>[]) (.cl 6 (MC x11) S8 XO λx12=>.bB 7 (!x12) λx13=>.ret x13) (λy1_1=>.ifs [16] y1_1 (.esc (.esc (.ret y0_1))) (.bI 18 (bM (y0_1+1)) λx14=>.brk x14))) (.esc (.brk ())))) (λ_=>.ret (-1))) (λy3_1=>.bB 8 (decide (y3_1>=0)) λx15=>.ret x15)) (λy4_1=>.bB 15 (!y4_1) λx16=>.ret x16)) (.ret false)) (λy5_1=>.ret y5_1)) (λy6_1=>.ifs [29] y6_1 (.inl 37 WU Tryz.func62 [1,2,3] [] (λ_ (a:Bool)=>aB a) (λ_ _=>[]) (.al 5<|.jn 0 [] [1,2,3] [] (λ_ (a:Bool)=>[(6,aB a)]) (λ_ _=>[]) (.ln 8 (fL 1 fI) a1.Methods<|.bB 10 (decide ((a1.Methods.length:Int)=a1.iD)) λx18=>.ifs [10] x18 (.inl 14 QG Tryz.func108 [1,2,3,5] [] (λ_ (a:Bool)=>aB a) (λ_ _=>[]) (.inl 7 TB Tryz.func149 [1,2,3,5] [] (λ_ (a:Int)=>int a) (λ_ _=>[]) (.ln 7 (fL 1 fI) a1.Methods<|.iA 0 [4] [1,2,3,5] [] (λ_ (a:Unit)=>[]) (λ_ _=>[]) (.lp [0,1,4,7] [1,2,3,5] [] (λ_ (a:Int)=>[(8,int a)]) (λ_ _=>[]) n 0 (λy7_1=>.bB 9 (decide (y7_1<(a1.Methods.length:Int))) λx19=>.ifs [9] x19 (.ix 14 (fL 1 fI) a1.Methods y7_1 λx20=>.inl 16 X3 Tryz.func109 [1,2,3,5] [] (λ_ (a:Bool)=>aB a) (λ_ _=>[]) (.inl 6 aMY Tryz.func58 [1,2,3,5] [] (λ_ (a:Bool)=>aB a) (λ_ _=>[]) (.inl 6 MS Tryz.func59 [1,2,3,5] [] (λ_ (a:Bool)=>aB a) (λ_ _=>[]) (.al 6<|.jn 0 [] [1,2,3,5] [] (λ_ (a:Bool)=>[(6,aB a)]) (λ_ _=>[]) (.ln 8 fI x20<|.bB 10 (decide ((x20.length:Int)=(a1.dH.length:Int))) λx22=>.ifs [10] x22 (.inl 14 FP Tryz.func106 [1,2,3,5,6] [] (λ_ (a:Bool)=>aB a) (λ_ _=>[]) (.inl 7 CX Tryz.func148 [1,2,3,5,6] [] (λ_ (a:Int)=>int a) (λ_ _=>[]) (.ln 7 fI x20<|.iA 0 [4] [1,2,3,5,6] [] (λ_ (a:Unit)=>[]) (λ_ _=>[]) (.lp [0,1,4,7] [1,2,3,5,6] [] (λ_ (a:Int)=>[(8,int a)]) (λ_ _=>[]) n 0 (λy8_1=>.bB 9 (decide (y8_1<(x20.length:Int))) λx23=>.ifs [9] x23 (.ix 14 fI x20 y8_1 λx24=>.inl 16 KG Tryz.func107 [1,2,3,5,6] [] (λ_ (a:Bool)=>aB a) (λ_ _=>[]) (.cl 6 (QX x24) Z4 aMD λx25=>.bB 7 (!x25) λx26=>.ret x26) (λy9_1=>.ifs [16] y9_1 (.esc (.esc (.ret y8_1))) (.bI 18 (bM (y8_1+1)) λx27=>.brk x27))) (.esc (.brk ())))) (λ_=>.ret (-1))) (λy11_1=>.bB 8 (decide (y11_1>=0)) λx28=>.ret x28)) (λy12_1=>.bB 15 (!y12_1) λx29=>.ret x29)) (.ret false)) (λy13_1=>.ret y13_1)) (λy14_1=>.ret y14_1)) (λy15_1=>.bB 7 (!y15_1) λx30=>.ret x30)) (λy16_1=>.ifs [16] y16_1 (.esc (.esc (.ret y7_1))) (.bI 18 (bM (y7_1+1)) λx31=>.brk x31))) (.esc (.brk ())))) (λ_=>.ret (-1))) (λy18_1=>.bB 8 (decide (y18_1>=0)) λx32=>.ret x32)) (λy19_1=>.bB 15 (!y19_1) λx33=>.ret x33)) (.ret false)) (λy20_1=>.ret y20_1)) (λy21_1=>.ifs [37] y21_1 (.inl 45 WU Tryz.func62 [1,2,3] [] (λ_ (a:Bool)=>aB a) (λ_ _=>[]) (.al 7<|.jn 0 [] [1,2,3] [] (λ_ (a:Bool)=>[(6,aB a)]) (λ_ _=>[]) (.ln 8 (fL 1 fI) a1.jO<|.bB 10 (decide ((a1.jO.length:Int)=a1.iD)) λx35=>.ifs [10] x35 (.inl 14 QG Tryz.func108 [1,2,3,7] [] (λ_ (a:Bool)=>aB a) (λ_ _=>[]) (.inl 7 TB Tryz.func149 [1,2,3,7] [] (λ_ (a:Int)=>int a) (λ_ _=>[]) (.ln 7 (fL 1 fI) a1.jO<|.iA 0 [4] [1,2,3,7] [] (λ_ (a:Unit)=>[]) (λ_ _=>[]) (.lp [0,1,4,7] [1,2,3,7] [] (λ_ (a:Int)=>[(8,int a)]) (λ_ _=>[]) n 0 (λy22_1=>.bB 9 (decide (y22_1<(a1.jO.length:Int))) λx36=>.ifs [9] x36 (.ix 14 (fL 1 fI) a1.jO y22_1 λx37=>.inl 16 X3 Tryz.func109 [1,2,3,7] [] (λ_ (a:Bool)=>aB a) (λ_ _=>[]) (.inl 6 aCD Tryz.func61 [1,2,3,7] [] (λ_ (a:Bool)=>aB a) (λ_ _=>[]) (.inl 8 MS Tryz.func59 [1,2,3,7] [] (λ_ (a:Bool)=>aB a) (λ_ _=>[]) (.al 8<|.jn 0 [] [1,2,3,7] [] (λ_ (a:Bool)=>[(6,aB a)]) (λ_ _=>[]) (.ln 8 fI x37<|.bB 10 (decide ((x37.length:Int)=(a1.dH.length:Int))) λx39=>.ifs [10] x39 (.inl 14 FP Tryz.func106 [1,2,3,7,8] [] (λ_ (a:Bool)=>aB a) (λ_ _=>[]) (.inl 7 CX Tryz.func148 [1,2,3,7,8] [] (λ_ (a:Int)=>int a) (λ_ _=>[]) (.ln 7 fI x37<|.iA 0 [4] [1,2,3,7,8] [] (λ_ (a:Unit)=>[]) (λ_ _=>[]) (.lp [0,1,4,7] [1,2,3,7,8] [] (λ_ (a:Int)=>[(8,int a)]) (λ_ _=>[]) n 0 (λy23_1=>.bB 9 (decide (y23_1<(x37.length:Int))) λx40=>.ifs [9] x40 (.ix 14 fI x37 y23_1 λx41=>.inl 16 KG Tryz.func107 [1,2,3,7,8] [] (λ_ (a:Bool)=>aB a) (λ_ _=>[]) (.cl 6 (MC x41) S8 XO λx42=>.bB 7 (!x42) λx43=>.ret x43) (λy24_1=>.ifs [16] y24_1 (.esc (.esc (.ret y23_1))) (.bI 18 (bM (y23_1+1)) λx44=>.brk x44))) (.esc (.brk ())))) (λ_=>.ret (-1))) (λy26_1=>.bB 8 (decide (y26_1>=0)) λx45=>.ret x45)) (λy27_1=>.bB 15 (!y27_1) λx46=>.ret x46)) (.ret false)) (λy28_1=>.ret y28_1)) (λy29_1=>.ret y29_1)) (λy30_1=>.bB 7 (!y30_1) λx47=>.ret x47)) (λy31_1=>.ifs [16] y31_1 (.esc (.esc (.ret y22_1))) (.bI 18 (bM (y22_1+1)) λx48=>.brk x48))) (.esc (.brk ())))) (λ_=>.ret (-1))) (λy33_1=>.bB 8 (decide (y33_1>=0)) λx49=>.ret x49)) (λy34_1=>.bB 15 (!y34_1) λx50=>.ret x50)) (.ret false)) (λy35_1=>.ret y35_1)) (λy36_1=>.ret y36_1)) (.ret false))) (.ret false))) (.ret false)) (.ret false)) (.ret false)) (λy37_1=>.ret ((y37_1:Bool)))
def CO (n:Nat) (a1:eU):Option (Bool):=(ZT n a1).run
theorem DT {n a1}:PZ (CO n a1) 27 [.agg (eU.av a1)] aB:=wq Tryz.func27
end
end Go.Pv
